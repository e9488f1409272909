/- ToothNumbered: with other numbers of the mouths all answers are the same Part 1 of 8. -/
import Derived.Conc.Own5
import Derived.Conc.Listed
import Derived.Conc.DeferLaws
import Derived.Orders
import Derived.Conc.Beside
set_option linter.all false
set_option maxRecDepth 100000
namespace Pal
open Go Go.Conc
abbrev LH:=Nat→Option Obj
structure St where
 E:LH
 H:LH
 q:Bool
abbrev Ld_:=List Deferred
abbrev Ao_:=Array Oper
abbrev Li_:=List Item
abbrev Lf_:=List Frame
abbrev On_:=Option (Nat×Bool)
abbrev Ae_:=Array Edge
abbrev Gs_:=Goroutine→St→Prop
abbrev Lv_:=List Value
abbrev Ay:=Array Value
def St.get(s:St)(b:Nat):Option Obj:=match s.E b with | some o=>some o | none=>s.H b
structure Fits (s:St) (w:World):Prop where
 e:∀b o,s.E b=some o→w.heap[b]? =some o
 h:∀b o,s.H b=some o→w.heap[b]? =some o
 d:∀b,s.E b≠none→s.H b=none
theorem Fits.get{s:St}{w:World}(f:Fits s w){b:Nat}{o:Obj}(h:s.get b=some o):w.heap[b]? =some o:=by
 unfold St.get at h;split at h
 ·rename_i o' K;cases h;exact f.e _ _ K
 ·exact f.h _ _ h
theorem Fits.RL{s:St}{w:World}(f:Fits s w){b:Nat}{o:Obj}(h:s.H b=some o):b<w.heap.size:=by
 have:=f.h _ _ h;rcases Nat.lt_or_ge b w.heap.size with K | K
 ·exact K
 ·simp [Array.getElem?_eq_none K] at this
theorem Fits.lt{s:St}{w:World}(f:Fits s w){b:Nat}{o:Obj}(h:s.get b=some o):b<w.heap.size:=by
 have:=f.get h;rcases Nat.lt_or_ge b w.heap.size with K | K
 ·exact K
 ·simp [Array.getElem?_eq_none K] at this
def cellAt(o:Obj)(a:Addr):Option Value:=match o with | .cells c _ _=>if a.spot.isSome then none else c[a.off]? | _=>none
def frozenAt(o:Obj)(a:Addr):Bool:=match o with | .cells _ _ (lo,hi)=>lo≤a.off&&a.off<hi | _=>false
def shapeOf(o:Obj):Option (TypeId×Nat):=match o with | .cells c e _=>some (e,c.size) | _=>none
def CK:Value→Bool | .agg _ | .tuple _=>false | _=>true
def IB(o:Obj)(a:Addr)(v:Value):Obj:=match o with | .cells c e f=> .cells (if a.spot.isSome then c else c.setIfInBounds a.off v) e f | o=>o
def HN(o:Obj):Bool:=match o with | .cells ..=>false | .chan ..=>false | .pending ..=>false | .view ..=>false | .number ..=>false | _=>true
def St.cell? (s:St)(a:Addr):Option Value:=(s.get a.block).bind (cellAt · a)
def St.upd(s:St)(b:Nat)(o:Obj):St:={s with H:=fun x=>if x=b then some o else s.H x}
theorem OI{w:World}{a:Addr}{o:Obj}(h:w.heap[a.block]? =some o):w.cell? a=cellAt o a:=by
 unfold World.cell? cellAt;rw [h];cases o <;> rfl
theorem Ox{w:World}{a:Addr}{o:Obj}(h:w.heap[a.block]? =some o):w.frozen? a=frozenAt o a:=by
 unfold World.frozen? frozenAt;rw [h];cases o <;> rfl
theorem R8{w:World}{b:Nat}{o:Obj}(h:w.heap[b]? =some o):w.shape? b=shapeOf o:=by
 unfold World.shape? shapeOf;rw [h];cases o <;> rfl
def lp(P:Program){α:Type}:Sem α→St→(α→St→Prop)→(Halt→St→Prop)→Prop
 | .pure a,s,Q,_=>Q a s
 | .load m a k,s,Q,X=>m= .plain∧∃v,s.cell? a=some v∧lp P (k v) s Q X
 | .store m a v k,s,Q,X=>m= .plain∧CK v=true∧∃o,s.H a.block=some o∧(cellAt o a).isSome=true∧frozenAt o a=false∧lp P k (s.upd a.block (IB o a v)) Q X
 | .new o k,s,Q,X=>s.q=false∧∀r,s.E r=none→s.H r=none→lp P (k r) (s.upd r o) Q X
 | .shape r k,s,Q,X=>∃o,s.get r=some o∧lp P (k (shapeOf o)) s Q X
 | .freeze _ _ _,_,_,_=>False
 | .frozen a k,s,Q,X=>∃o,s.get a.block=some o∧lp P (k (frozenAt o a)) s Q X
 | .getObj r k,s,Q,X=>∃o,s.get r=some o∧HN o=true∧lp P (k o) s Q X
 | .setObj r o k,s,Q,X=>(∃o₀,s.H r=some o₀∧HN o₀=true)∧HN o=true∧lp P k (s.upd r o) Q X
 | .choose q k,s,Q,X=>if q.forced then lp P (k 0) s Q X else s.q=false∧∀t,lp P (k (q.cut t)) s Q X
 | .sys _ _,_,_,_=>False
 | .program k,s,Q,X=>lp P (k P) s Q X
 | .mark m k,s,Q,X=>((s.q=false∧m= .noRoom)∨∃f,m= .extern f)∧lp P k s Q X
 | .halt h,s,_,X=>X h s
theorem Di{P:Program}{α:Type}(x:Sem α):∀{s:St} {Q V:α→St→Prop} {X W:Halt→St→Prop},lp P x s Q X→(∀a s,Q a s→V a s)→(∀h s,X h s→W h s)→lp P x s V W:=by
 induction x with
 | pure a=>intro s Q V X W h K O;exact K _ _ h
 | load m a k U=>intro s Q V X W h K O;obtain⟨Y,v,Z,aa⟩:=h;exact⟨Y,v,Z,U _ aa K O⟩
 | store m a v k U=>intro s Q V X W h K O;obtain⟨Y,Z,o,aa,ae,ah,ai⟩:=h;exact⟨Y,Z,o,aa,ae,ah,U ai K O⟩
 | new o k U=>intro s Q V X W h K O;exact⟨h.1,fun r Y Z=>U _ (h.2 r Y Z) K O⟩
 | shape r k U=>intro s Q V X W h K O;obtain⟨o,Y,Z⟩:=h;exact⟨o,Y,U _ Z K O⟩
 | freeze a n k U=>intro s Q V X W h K O;exact h
 | frozen a k U=>intro s Q V X W h K O;obtain⟨o,Y,Z⟩:=h;exact⟨o,Y,U _ Z K O⟩
 | getObj r k U=>intro s Q V X W h K O;obtain⟨o,Y,Z,aa⟩:=h;exact⟨o,Y,Z,U _ aa K O⟩
 | setObj r o k U=>intro s Q V X W h K O;obtain⟨Y,Z,aa⟩:=h;exact⟨Y,Z,U aa K O⟩
 | choose q k U=>
  intro s Q V X W h K O;simp only [lp] at h ⊢;split
  ·rename_i ab;rw [if_pos ab] at h;exact U _ h K O
  ·rename_i ab;rw [if_neg ab] at h;exact⟨h.1,fun t=>U _ (h.2 t) K O⟩
 | sys c k U=>intro s Q V X W h K O;exact h
 | program k U=>intro s Q V X W h K O;exact U _ h K O
 | mark m k U=>intro s Q V X W h K O;exact⟨h.1,U h.2 K O⟩
 | halt h=>intro s Q V X W h K O;exact O _ _ h
theorem AF{P:Program}{α β:Type}(x:Sem α)(f:α→Sem β):∀{s:St} {Q:β→St→Prop} {X:Halt→St→Prop},lp P x s (fun a s'=>lp P (f a) s' Q X) X→lp P (x>>=f) s Q X:=by
 show ∀{s:St} {Q:β→St→Prop} {X:Halt→St→Prop},lp P x s (fun a s'=>lp P (f a) s' Q X) X→lp P (Sem.bind x f) s Q X
 induction x with
 | pure a=>intro s Q X h;exact h
 | load m a k K=>intro s Q X h;obtain⟨O,v,U,V⟩:=h;exact⟨O,v,U,K _ V⟩
 | store m a v k K=>intro s Q X h;obtain⟨O,U,o,V,Y,Z,aa⟩:=h;exact⟨O,U,o,V,Y,Z,K aa⟩
 | new o k K=>intro s Q X h;exact⟨h.1,fun r O U=>K _ (h.2 r O U)⟩
 | shape r k K=>intro s Q X h;obtain⟨o,O,U⟩:=h;exact⟨o,O,K _ U⟩
 | freeze a n k K=>intro s Q X h;exact h
 | frozen a k K=>intro s Q X h;obtain⟨o,O,U⟩:=h;exact⟨o,O,K _ U⟩
 | getObj r k K=>intro s Q X h;obtain⟨o,O,U,V⟩:=h;exact⟨o,O,U,K _ V⟩
 | setObj r o k K=>intro s Q X h;obtain⟨O,U,V⟩:=h;exact⟨O,U,K V⟩
 | choose q k K=>
  intro s Q X h;simp only [lp,Sem.bind] at h ⊢;split
  ·rename_i W;rw [if_pos W] at h;exact K _ h
  ·rename_i W;rw [if_neg W] at h;exact⟨h.1,fun t=>K _ (h.2 t)⟩
 | sys c k K=>intro s Q X h;exact h
 | program k K=>intro s Q X h;exact K _ h
 | mark m k K=>intro s Q X h;exact⟨h.1,K h.2⟩
 | halt h=>intro s Q X h;exact h
structure Fr (s:St) (w:World) (s':St) (w':World):Prop where
 size:w.heap.size≤w'.heap.size
 keep:∀b,b<w.heap.size→s.H b=none→w'.heap[b]? =w.heap[b]?
 own:∀b,s'.H b≠none→s.H b≠none∨w.heap.size≤b
 ext:∀b o,s.E b=some o→s'.E b=some o
 Ec:∀b,s'.E b≠none→s.E b≠none∨s.H b≠none∨w.heap.size≤b
 tape:w'.tape=w.tape
 os:w'.os=w.os
 output:w'.output=w.output
theorem Fr.refl(s:St)(w:World):Fr s w s w:=
 ⟨Nat.le_refl _,fun _ _ _=>rfl,fun _ h=> .inl h,fun _ _ h=>h,fun _ h=> .inl h,rfl,rfl,rfl⟩
theorem Fr.trans{s K O:St}{w U V:World}(h:Fr s w K U)(k:Fr K U O V):Fr s w O V where
 size:=Nat.le_trans h.size k.size
 keep b hb W:=by
  rw [k.keep b (Nat.lt_of_lt_of_le hb h.size) ?_,h.keep b hb W];by_cases Y:K.H b=none
  ·exact Y
  ·rcases h.own b Y with x | x
   ·exact absurd W x
   ·omega
 own b hb:=by
  rcases k.own b hb with x | x
  ·exact h.own b x
  ·exact .inr (Nat.le_trans h.size x)
 ext b o Z:=k.ext b o (h.ext b o Z)
 Ec b hb:=by
  rcases k.Ec b hb with x | x | x
  ·exact h.Ec b x
  ·rcases h.own b x with y | y
   ·exact .inr (.inl y)
   ·exact .inr (.inr y)
  ·exact .inr (.inr (Nat.le_trans h.size x))
 tape:=k.tape.trans h.tape
 os:=k.os.trans h.os
 output:=k.output.trans h.output
def FI(s:St)(w w':World)(b:Nat)(write:Bool):Prop:=
 b<w'.heap.size∧(s.H b≠none∨w.heap.size≤b∨(s.E b≠none∧write=false))
def Ev(s:St)(w w':World)(e:Event):Prop:=
 match e.loc with
 | .cell a=>e.sync=false∧FI s w w' a.block e.write
 | .obj r=>e.sync=false∧FI s w w' r e.write
 | .mark (.extern _)=>True
 | .mark .noRoom=>True
 | _=>False
theorem FI.Ai{s K:St}{w O w' U:World}{b:Nat}{wr:Bool}(h:Fr s w K O)(hs:w'.heap.size≤U.heap.size)(t:FI K O w' b wr):FI s w U b wr:=by
 refine⟨Nat.lt_of_lt_of_le t.1 hs,?_⟩;rcases t.2 with x | x | ⟨x,y⟩
 ·rcases h.own b x with z | z
  ·exact .inl z
  ·exact .inr (.inl z)
 ·exact .inr (.inl (Nat.le_trans h.size x))
 ·rcases h.Ec b x with z | z | z
  ·exact .inr (.inr ⟨z,y⟩)
  ·exact .inl z
  ·exact .inr (.inl z)
theorem Ev.Ai{s K:St}{w O w' U:World}{e:Event}(h:Fr s w K O)(hs:w'.heap.size≤U.heap.size)(t:Ev K O w' e):Ev s w U e:=by
 unfold Ev at t ⊢;split <;> rename_i he <;> simp only [he] at t
 ·exact⟨t.1,t.2.Ai h hs⟩
 ·exact⟨t.1,t.2.Ai h hs⟩
 ·trivial
 ·trivial
def IE{α:Type}:Result α→World | .ok _ w=>w | .halt _ w=>w
def Wh{α:Type}(Q:α→St→Prop)(X:Halt→St→Prop)(s:St):Result α→Prop | .ok a _=>Q a s | .halt h _=>X h s
theorem PM{s:St}{b:Nat}{o:Obj}(h:s.get b=some o)(K:s.H b=none):s.E b≠none:=by
 intro e;unfold St.get at h;rw [e] at h;simp only at h;rw [K] at h;cases h
theorem Nn{s:St}{w w':World}{b:Nat}{o:Obj}(f:Fits s w)(U:s.E b=none)(hb:w'.heap[b]? =some o)(V:∀c,c≠b→∀x,w.heap[c]? =some x→w'.heap[c]? =some x):Fits (s.upd b o) w' where
 e c x K:=by
  have O:c≠b:=fun e=>by subst e;simp [St.upd] at K;rw [U] at K;cases K
  exact V c O x (f.e c x K)
 h c x K:=by
  simp only [St.upd] at K;split at K
  ·rename_i e;subst e;cases K;exact hb
  ·rename_i O;exact V c O x (f.h c x K)
 d c K:=by
  have O:c≠b:=fun e=>by subst e;exact K U
  simp only [St.upd,if_neg O];exact f.d c K
theorem Lq{P:Program}{α:Type}(x:Sem α):∀{s:St} {w:World} {Q:α→St→Prop} {X:Halt→St→Prop},lp P x s Q X→Fits s w→
  ∃s',Fits s' (IE (x.run P w))∧Fr s w s' (IE (x.run P w))∧(∀e∈x.events P w #[],Ev s w (IE (x.run P w)) e)∧Wh Q X s' (x.run P w):=by
 induction x with
 | pure a=>intro s w Q X h f;exact⟨s,f,.refl _ _,by simp [Sem.events_pure'],h⟩
 | load m a k O=>
  intro s w Q X h f;obtain⟨rfl,v,aq,h⟩:=h;obtain⟨o,K,aD⟩:=Option.bind_eq_some_iff.1 aq;have hw:=f.get K;have ar:w.cell? a=some v:=by rw [OI hw,aD]
  have U:(Sem.load Mode.plain a k).run P w=(k v).run P w:=by simp [Sem.run,ar]
  have V:(Sem.load Mode.plain a k).events P w #[]= #[⟨.cell a,false,false⟩]++(k v).events P w #[]:=by
   rw [← Sem.events_acc];simp only [Sem.events,Sem.runT,ar];rfl
  rw [U,V];obtain⟨s',Y,W,Z,aa⟩:=O v h f;refine⟨s',Y,W,fun e he=>?_,aa⟩;rcases Array.mem_append.1 he with he | he
  ·simp at he;subst he;refine⟨rfl,Nat.lt_of_lt_of_le (f.lt K) W.size,?_⟩;by_cases al:s.H a.block=none
   ·refine .inr (.inr ⟨?_,rfl⟩);exact PM K al
   ·exact .inl al
  ·exact Z e he
 | store m a v k O=>
  intro s w Q X h f;obtain⟨rfl,aq,o,K,ar,aE,h⟩:=h;have hw:=f.h _ _ K;obtain⟨u,hu⟩:=Option.isSome_iff_exists.1 ar;have az:w.cell? a=some u:=by rw [OI hw,hu]
  have aA:w.frozen? a=false:=by rw [Ox hw,aE]
  have au:=f.RL K;obtain⟨aw,ay,f0,rfl⟩:∃c e f,o= .cells c e f:=by cases o <;> simp [cellAt] at hu;exact⟨_,_,_,rfl⟩
  have aF:(w.setCell a v).heap[a.block]? =some (IB (.cells aw ay f0) a v):=by
   simp [World.setCell,IB,Array.getElem?_modify,hw]
  have am:∀c,c≠a.block→(w.setCell a v).heap[c]? =w.heap[c]? :=by
   intro c ah;simp [World.setCell,Array.getElem?_modify,Ne.symm ah]
  have ae:s.E a.block=none:=by
   cases ae:s.E a.block with
   | none=>rfl
   | some x=>have:=f.d a.block (by rw [ae];simp);rw [K] at this;cases this
  have an:Fits (s.upd a.block (IB (.cells aw ay f0) a v)) (w.setCell a v):=Nn f ae aF (fun c ah x ai=>by rw [am c ah];exact ai);have U:(Sem.store Mode.plain a v k).run P w=k.run P (w.setCell a v):=by
   cases v <;> first | (simp [CK] at aq;done) | simp [Sem.run,az,aA]
  have V:(Sem.store Mode.plain a v k).events P w #[]= #[⟨.cell a,true,false⟩]++k.events P (w.setCell a v) #[]:=by
   rw [← Sem.events_acc];cases v <;> first | (simp [CK] at aq;done) | (simp only [Sem.events,Sem.runT,az,aA];rfl)
  have ab:Fr s w (s.upd a.block (IB (.cells aw ay f0) a v)) (w.setCell a v):=by
   refine⟨by simp [World.setCell],fun b hb aj=>am b (fun e=>by subst e;rw [K] at aj;cases aj),fun b hb=>?_,fun _ _ h=>h,fun _ h=> .inl h,rfl,rfl,rfl⟩;simp only [St.upd] at hb;split at hb
   ·rename_i e;subst e;exact .inl (by rw [K];simp)
   ·exact .inl hb
  rw [U,V];obtain⟨s',Y,W,Z,aa⟩:=O h an;refine⟨s',Y,ab.trans W,fun e he=>?_,aa⟩;rcases Array.mem_append.1 he with he | he
  ·simp at he;subst he;exact⟨rfl,Nat.lt_of_lt_of_le au (ab.trans W).size,.inl (by rw [K];simp)⟩
  ·exact(Z e he).Ai ab (Nat.le_refl _)
 | new o k O=>
  intro s w Q X h f;have aB:s.E w.heap.size=none:=by
   cases ae:s.E w.heap.size with
   | none=>rfl
   | some x=>have:=f.e _ _ ae;simp at this
  have aG:s.H w.heap.size=none:=by
   cases ae:s.H w.heap.size with
   | none=>rfl
   | some x=>have:=f.h _ _ ae;simp at this
  have U:(Sem.new o k).run P w=(k w.heap.size).run P {w with heap:=w.heap.push o}:=by simp [Sem.run]
  have V:(Sem.new o k).events P w #[]=(k w.heap.size).events P {w with heap:=w.heap.push o} #[]:=by simp only [Sem.events,Sem.runT]
  rw [U,V];have an:Fits (s.upd w.heap.size o) {w with heap:=w.heap.push o}:=Nn f aB (by simp) (fun c ah x ai=>by
   have:c<w.heap.size:=by
    rcases Nat.lt_or_ge c w.heap.size with ao | ao
    ·exact ao
    ·simp [Array.getElem?_eq_none ao] at ai
   simp [Array.getElem?_push,Nat.ne_of_lt this,ai])
  have ab:Fr s w (s.upd w.heap.size o) {w with heap:=w.heap.push o}:=by
   refine⟨by simp,fun b hb aj=>by simp [Array.getElem?_push,Nat.ne_of_lt hb],fun b hb=>?_,fun _ _ h=>h,fun _ h=> .inl h,rfl,rfl,rfl⟩;simp only [St.upd] at hb;split at hb
   ·rename_i e;subst e;exact .inr (Nat.le_refl _)
   ·exact .inl hb
  obtain⟨s',Y,W,Z,aa⟩:=O _ (h.2 _ aB aG) an;exact⟨s',Y,ab.trans W,fun e he=>(Z e he).Ai ab (Nat.le_refl _),aa⟩
 | shape r k O=>
  intro s w Q X h f;obtain⟨o,K,h⟩:=h;have ap:=R8 (f.get K);have U:(Sem.shape r k).run P w=(k (shapeOf o)).run P w:=by simp [Sem.run,ap]
  have V:(Sem.shape r k).events P w #[]=(k (shapeOf o)).events P w #[]:=by simp only [Sem.events,Sem.runT,ap]
  rw [U,V];exact O _ h f
 | freeze a n k O=>intro s w Q X h f;exact h.elim
 | frozen a k O=>
  intro s w Q X h f;obtain⟨o,K,h⟩:=h;have ap:=Ox (a:=a) (f.get K);have U:(Sem.frozen a k).run P w=(k (frozenAt o a)).run P w:=by simp [Sem.run,ap]
  have V:(Sem.frozen a k).events P w #[]=(k (frozenAt o a)).events P w #[]:=by simp only [Sem.events,Sem.runT,ap]
  rw [U,V];exact O _ h f
 | getObj r k O=>
  intro s w Q X h f;obtain⟨o,K,av,h⟩:=h;have hw:=f.get K;have U:(Sem.getObj r k).run P w=(k o).run P w:=by cases o <;> simp [HN] at av <;> simp [Sem.run,hw]
  have V:(Sem.getObj r k).events P w #[]= #[⟨.obj r,false,false⟩]++(k o).events P w #[]:=by
   rw [← Sem.events_acc];cases o <;> simp [HN] at av <;> (simp only [Sem.events,Sem.runT,hw,Obj.isChan];rfl)
  rw [U,V];obtain⟨s',Y,W,Z,aa⟩:=O o h f;refine⟨s',Y,W,fun e he=>?_,aa⟩;rcases Array.mem_append.1 he with he | he
  ·simp at he;subst he;refine⟨rfl,Nat.lt_of_lt_of_le (f.lt K) W.size,?_⟩;by_cases al:s.H r=none
   ·refine .inr (.inr ⟨?_,rfl⟩);exact PM K al
   ·exact .inl al
  ·exact Z e he
 | setObj r o k O=>
  intro s w Q X h f;obtain⟨⟨o₀,K,aC⟩,av,h⟩:=h;have hw:=f.h _ _ K;have au:=f.RL K;have ae:s.E r=none:=by
   cases ae:s.E r with
   | none=>rfl
   | some x=>have:=f.d r (by rw [ae];simp);rw [K] at this;cases this
  have U:(Sem.setObj r o k).run P w=k.run P {w with heap:=w.heap.setIfInBounds r o}:=by
   cases o₀ <;> simp [HN] at aC <;> simp [Sem.run,hw]
  have V:(Sem.setObj r o k).events P w #[]= #[⟨.obj r,true,false⟩]++k.events P {w with heap:=w.heap.setIfInBounds r o} #[]:=by
   rw [← Sem.events_acc];cases o₀ <;> simp [HN] at aC <;> cases o <;> simp [HN] at av <;> (simp only [Sem.events,Sem.runT,hw,Obj.isChan];rfl)
  have am:∀c,c≠r→(w.heap.setIfInBounds r o)[c]? =w.heap[c]? :=fun c ah=>by simp [Ne.symm ah]
  have an:Fits (s.upd r o) {w with heap:=w.heap.setIfInBounds r o}:=Nn f ae (by simp [au]) (fun c ah x ai=>by show(w.heap.setIfInBounds r o)[c]? =_;rw [am c ah];exact ai);have ab:Fr s w (s.upd r o) {w with heap:=w.heap.setIfInBounds r o}:=by
   refine⟨by simp,fun b hb aj=>am b (fun e=>by subst e;rw [K] at aj;cases aj),fun b hb=>?_,fun _ _ h=>h,fun _ h=> .inl h,rfl,rfl,rfl⟩;simp only [St.upd] at hb;split at hb
   ·rename_i e;subst e;exact .inl (by rw [K];simp)
   ·exact .inl hb
  rw [U,V];obtain⟨s',Y,W,Z,aa⟩:=O h an;refine⟨s',Y,ab.trans W,fun e he=>?_,aa⟩;rcases Array.mem_append.1 he with he | he
  ·simp at he;subst he;exact⟨rfl,Nat.lt_of_lt_of_le au (ab.trans W).size,.inl (by rw [K];simp)⟩
  ·exact(Z e he).Ai ab (Nat.le_refl _)
 | choose q k O=>
  intro s w Q X h f;simp only [lp] at h;by_cases ak:q.forced
  ·rw [if_pos ak] at h;have U:(Sem.choose q k).run P w=(k 0).run P w:=by simp [Sem.run,ak]
   have V:(Sem.choose q k).events P w #[]=(k 0).events P w #[]:=by simp only [Sem.events,Sem.runT];rw [if_pos ak]
   rw [U,V];exact O _ h f
  ·rw [if_neg ak] at h;have U:(Sem.choose q k).run P w=(k (q.cut (w.tape w.drawn q))).run P {w with drawn:=w.drawn+1}:=by simp [Sem.run,ak]
   have V:(Sem.choose q k).events P w #[]=(k (q.cut (w.tape w.drawn q))).events P {w with drawn:=w.drawn+1} #[]:=by simp only [Sem.events,Sem.runT];rw [if_neg ak]
   rw [U,V];have ab:Fr s w s {w with drawn:=w.drawn+1}:=⟨Nat.le_refl _,fun _ _ _=>rfl,fun _ h=> .inl h,fun _ _ h=>h,fun _ h=> .inl h,rfl,rfl,rfl⟩;obtain⟨s',Y,W,Z,aa⟩:=O _ (h.2 (w.tape w.drawn q)) (⟨f.e,f.h,f.d⟩:Fits s {w with drawn:=w.drawn+1});exact⟨s',Y,ab.trans W,fun e he=>(Z e he).Ai ab (Nat.le_refl _),aa⟩
 | sys c k O=>intro s w Q X h f;exact h.elim
 | program k O=>
  intro s w Q X h f;have U:(Sem.program k).run P w=(k P).run P w:=by simp [Sem.run]
  have V:(Sem.program k).events P w #[]=(k P).events P w #[]:=by simp only [Sem.events,Sem.runT]
  rw [U,V];exact O _ h f
 | mark m k O=>
  intro s w Q X h f;have U:(Sem.mark m k).run P w=k.run P w:=by simp [Sem.run]
  have V:(Sem.mark m k).events P w #[]= #[⟨.mark m,false,true⟩]++k.events P w #[]:=by
   rw [← Sem.events_acc];simp only [Sem.events,Sem.runT];rfl
  rw [U,V];obtain⟨hm,h⟩:=h;obtain⟨s',Y,W,Z,aa⟩:=O h f;refine⟨s',Y,W,fun e he=>?_,aa⟩;rcases Array.mem_append.1 he with he | he
  ·simp at he;subst he;rcases hm with⟨_,rfl⟩ | ⟨g,rfl⟩ <;> trivial
  ·exact Z e he
 | halt h=>intro s w Q X ao f;exact⟨s,f,.refl _ _,by simp [Sem.events_halt],ao⟩
theorem MS{P:Program}{fn:FuncId}{es:Array Event}(h:∀e∈es,∃f,e.loc= .mark (.extern f)):seen P fn es= #[]:=by
 rw [seen_def];have:∀(l:List Event) (q:Bool),(∀e∈l,∃f,e.loc= .mark (.extern f))→(l.foldl (seenStep fun f=>(P.funcs[f]?).any (·.norace)) (q,#[])).2= #[]:=by
  intro l
  induction l with
  | nil=>intro q _;rfl
  | cons e l K=>
   intro q h;obtain⟨f,O⟩:=h e (by simp);rw [List.foldl_cons];have:seenStep (fun f=>(P.funcs[f]?).any (·.norace)) (q,#[]) e=((P.funcs[f]?).any (·.norace),#[]):=by simp [seenStep,O]
   rw [this];exact K _ fun x U=>h x (by simp [U])
 exact this es.toList _ fun e he=>h e (Array.mem_toList_iff.1 he)
def St.quiet:St:=⟨fun _=>none,fun _=>none,true⟩
theorem Nj{P:Program}{α:Type}(x:Sem α):∀{Q:α→St→Prop} {X:Halt→St→Prop},lp P x .quiet Q X→
  ∃es,(∀w,x.events P w #[]=es)∧(∀e∈es,∃f,e.loc= .mark (.extern f))∧((∃a,Q a .quiet∧(∀w,x.run P w= .ok a w))∨(∃a,X a .quiet∧(∀w,x.run P w= .halt a w))):=by
 induction x with
 | pure a=>intro Q X h;exact⟨#[],fun w=>by simp [Sem.events_pure'],by simp,.inl ⟨a,h,fun w=>rfl⟩⟩
 | load m a k K=>intro Q X h;obtain⟨_,v,W,_⟩:=h;simp [St.cell?,St.get,St.quiet] at W
 | store m a v k K=>intro Q X h;obtain⟨_,_,o,Y,_⟩:=h;cases Y
 | new o k K=>intro Q X h;cases h.1
 | shape r k K=>intro Q X h;obtain⟨o,O,_⟩:=h;simp [St.get,St.quiet] at O
 | freeze a n k K=>intro Q X h;exact h.elim
 | frozen a k K=>intro Q X h;obtain⟨o,O,_⟩:=h;simp [St.get,St.quiet] at O
 | getObj r k K=>intro Q X h;obtain⟨o,O,_⟩:=h;simp [St.get,St.quiet] at O
 | setObj r o k K=>intro Q X h;obtain⟨⟨o,O,_⟩,_⟩:=h;cases O
 | choose q k K=>
  intro Q X h;simp only [lp] at h;by_cases U:q.forced
  ·rw [if_pos U] at h;have V:∀w,(Sem.choose q k).run P w=(k 0).run P w:=fun w=>by simp [Sem.run,U]
   have e2:∀w,(Sem.choose q k).events P w #[]=(k 0).events P w #[]:=fun w=>by simp only [Sem.events,Sem.runT];rw [if_pos U]
   simpa only [V,e2] using K _ h
  ·rw [if_neg U] at h;cases h.1
 | sys c k K=>intro Q X h;exact h.elim
 | program k K=>
  intro Q X h;have V:∀w,(Sem.program k).run P w=(k P).run P w:=fun w=>by simp [Sem.run]
  have e2:∀w,(Sem.program k).events P w #[]=(k P).events P w #[]:=fun w=>by simp only [Sem.events,Sem.runT]
  simpa only [V,e2] using K _ h
 | mark m k K=>
  intro Q X h;obtain⟨hm,h⟩:=h;obtain⟨es,O,W,Y⟩:=K h;have V:∀w,(Sem.mark m k).run P w=k.run P w:=fun w=>by simp [Sem.run]
  have e2:∀w,(Sem.mark m k).events P w #[]= #[⟨.mark m,false,true⟩]++k.events P w #[]:=fun w=>by rw [← Sem.events_acc];simp only [Sem.events,Sem.runT];rfl
  refine⟨#[⟨.mark m,false,true⟩]++es,fun w=>by rw [e2,O],fun e he=>?_,by simpa only [V] using Y⟩;rcases Array.mem_append.1 he with he | he
  ·simp at he;subst he;rcases hm with⟨U,_⟩ | hm
   ·cases U
   ·obtain⟨f,rfl⟩:=hm;exact⟨f,rfl⟩
  ·exact W e he
 | halt h=>intro Q X Z;exact⟨#[],fun w=>by simp [Sem.events_halt],by simp,.inr ⟨h,Z,fun w=>rfl⟩⟩
end Pal
namespace Pal
open Go Go.Conc
def Q8(P:Program)(main:Bool)(g:Goroutine)(s:St)(K:Gs_):Prop:=
 g.status= .running∧(∀w,Fits s w→
  ∃g' s' w' es,stepG P main g w= .go g' w' es∧K g' s'∧Fits s' w'∧Fr s w s' w'∧(∀e∈es,Ev s w w' e))∧
  (s= .quiet→∃g',(∀w,stepG P main g w= .go g' w #[])∧K g' .quiet)
structure CV (s s₀:St):Prop where
 ext:∀b o,s.E b=some o→s₀.E b=some o
 own:∀b o,s₀.H b=some o→s.H b=some o
 Ec:∀b o,s₀.E b=some o→s.E b=some o∨(s.H b=some o∧s₀.H b=none)
 q:s₀.q=s.q
theorem CV.refl(s:St):CV s s:=⟨fun _ _ h=>h,fun _ _ h=>h,fun _ _ h=> .inl h,rfl⟩
theorem CV.fits{s s₀:St}(g:CV s s₀){w:World}(f:Fits s w):Fits s₀ w where
 e b o h:=by
  rcases g.Ec b o h with x | x
  ·exact f.e _ _ x
  ·exact f.h _ _ x.1
 h b o h:=f.h _ _ (g.own _ _ h)
 d b h:=by
  cases K:s₀.E b with
  | none=>exact absurd K h
  | some o=>
   rcases g.Ec b o K with x | x
   ·cases O:s₀.H b with
    | none=>rfl
    | some y=>have:=g.own _ _ O;rw [f.d b (by rw [x];simp)] at this;cases this
   ·exact x.2
theorem G0{α:Type}{x:Option α}(h:x≠none):∃a,x=some a:=by cases x <;> simp at h;exact⟨_,rfl⟩
theorem CV.fr{s s₀ s':St}{w w':World}(g:CV s s₀)(f:Fr s₀ w s' w'):Fr s w s' w' where
 size:=f.size
 keep b hb O:=f.keep b hb (by
  cases h:s₀.H b with
  | none=>rfl
  | some o=>rw [g.own _ _ h] at O;cases O)
 own b hb:=(f.own b hb).imp (fun h=>by obtain⟨o,K⟩:=G0 h;rw [g.own _ _ K];simp) id
 ext b o h:=f.ext _ _ (g.ext _ _ h)
 Ec b hb:=by
  rcases f.Ec b hb with h | h | h
  ·obtain⟨o,K⟩:=G0 h;rcases g.Ec _ _ K with x | x
   ·exact .inl (by rw [x];simp)
   ·exact .inr (.inl (by rw [x.1];simp))
  ·obtain⟨o,K⟩:=G0 h;exact .inr (.inl (by rw [g.own _ _ K];simp))
  ·exact .inr (.inr h)
 tape:=f.tape
 os:=f.os
 output:=f.output
theorem CV.FI{s s₀:St}{w w':World}{b:Nat}{wr:Bool}(g:CV s s₀)(t:FI s₀ w w' b wr):FI s w w' b wr:=by
 refine⟨t.1,?_⟩;rcases t.2 with h | h | ⟨h,hw⟩
 ·obtain⟨o,K⟩:=G0 h;exact .inl (by rw [g.own _ _ K];simp)
 ·exact .inr (.inl h)
 ·obtain⟨o,K⟩:=G0 h;rcases g.Ec _ _ K with x | x
  ·exact .inr (.inr ⟨by rw [x];simp,hw⟩)
  ·exact .inl (by rw [x.1];simp)
theorem CV.ev{s s₀:St}{w w':World}{e:Event}(g:CV s s₀)(t:Ev s₀ w w' e):Ev s w w' e:=by
 unfold Ev at t ⊢;split <;> rename_i he <;> simp only [he] at t
 ·exact⟨t.1,g.FI t.2⟩
 ·exact⟨t.1,g.FI t.2⟩
 ·trivial
 ·trivial
theorem CV.quiet{s₀:St}(g:CV .quiet s₀):s₀= .quiet:=by
 obtain⟨E,H,q⟩:=s₀;have K:E=fun _=>none:=by
  funext b;cases h:E b with
  | none=>rfl
  | some o=>rcases g.Ec b o h with x | ⟨x,_⟩ <;> cases x
 have O:H=fun _=>none:=by
  funext b;cases h:H b with
  | none=>rfl
  | some o=>cases g.own b o h
 have U:q=true:=g.q;subst K O U;rfl
inductive Rk:Type where
 | leaf:Rk
 | node (f:World→Rk):Rk
def Rk.sub(a b:Rk):Prop:=∃f w,b= .node f∧a=f w
theorem Rk.wf:WellFounded Rk.sub:=⟨fun r=>by
 induction r with
 | leaf=>exact⟨_,fun a ⟨f,w,h,_⟩=>by cases h⟩
 | node f K=>exact⟨_,fun a ⟨g,w,h,e⟩=>by cases h;subst e;exact K w⟩⟩
def Jr(P:Program)(main:Bool)(Q:Gs_):Rk→Gs_
 | .leaf,g,s=>Q g s
 | .node f,g,s=>Q g s∨(g.status= .running∧∀w,Fits s w→
  ∃g' s' w' es,stepG P main g w= .go g' w' es∧Jr P main Q (f w) g' s'∧Fits s' w'∧Fr s w s' w'∧(∀e∈es,Ev s w w' e)∧(s= .quiet→s'= .quiet∧w'=w∧es= #[]))
structure Judge (P:Program) where
 main:Bool
 ok:(Gs_)→Gs_
 stop:∀{Q g s},Q g s→ok Q g s
 step:∀{Q g s},Q8 P main g s (ok Q)→ok Q g s
 trans:∀{Q R g s},ok Q g s→(∀g' s',Q g' s'→ok R g' s')→ok R g s
 ghost:∀{Q g s s₀},CV s s₀→ok Q g s₀→ok Q g s
def JQ(Q:Gs_)(g:Goroutine)(s:St):Prop:=∃s₀,CV s s₀∧Q g s₀
theorem CV.trans{a b c:St}(h:CV a b)(k:CV b c):CV a c where
 ext x o y:=k.ext _ _ (h.ext _ _ y)
 own x o y:=h.own _ _ (k.own _ _ y)
 Ec x o y:=by
  rcases k.Ec x o y with z | z
  ·rcases h.Ec x o z with u | u
   ·exact .inl u
   ·refine .inr ⟨u.1,?_⟩;cases K:c.H x with
    | none=>rfl
    | some v=>have:=k.own _ _ K;rw [u.2] at this;cases this
  ·exact .inr ⟨h.own _ _ z.1,z.2⟩
 q:=k.q.trans h.q
def Bo(P:Program)(main:Bool):Judge P where
 main:=main
 ok Q g s:=∃r,Jr P main (JQ Q) r g s
 stop h:=⟨.leaf,_,.refl _,h⟩
 step {Q g s} h:=by
  obtain⟨U,h,hu⟩:=h;have aa:∀w,∃r:Rk,Fits s w→∃g' s' w' es,stepG P main g w= .go g' w' es∧Jr P main (JQ Q) r g' s'∧Fits s' w'∧Fr s w s' w'∧(∀e∈es,Ev s w w' e)∧(s= .quiet→s'= .quiet∧w'=w∧es= #[]):=by
   intro w;by_cases f:Fits s w
   ·by_cases e:s= .quiet
    ·obtain⟨g',K,r,O⟩:=hu e;exact⟨r,fun _=>⟨g',.quiet,w,#[],K w,O,e▸f,e▸ .refl _ _,by simp,fun _=>⟨rfl,rfl,rfl⟩⟩⟩
    ·obtain⟨g',s',w',es,K,⟨r,O⟩,Y,ab,ae⟩:=h w f;exact⟨r,fun _=>⟨g',s',w',es,K,O,Y,ab,ae,fun x=>absurd x e⟩⟩
   ·exact⟨.leaf,fun x=>absurd x f⟩
  exact⟨.node fun w=>Classical.choose (aa w),.inr ⟨U,fun w f=>Classical.choose_spec (aa w) f⟩⟩
 trans {Q R g s} h k:=by
  obtain⟨r,h⟩:=h;have ai:∀(r:Rk) {g:Goroutine} {s s₀:St},CV s s₀→Jr P main (JQ R) r g s₀→Jr P main (JQ R) r g s:=by
   intro r g s s₀ V W;cases r with
   | leaf=>obtain⟨Z,K,O⟩:=W;exact⟨Z,V.trans K,O⟩
   | node f=>
    rcases W with⟨Z,K,O⟩ | ⟨U,W⟩
    ·exact .inl ⟨Z,V.trans K,O⟩
    ·exact .inr ⟨U,fun w f=>let ⟨g',s',w',es,K,O,Y,ab,ae,ah⟩:=W w (V.fits f);⟨g',s',w',es,K,O,Y,V.fr ab,fun e he=>V.ev (ae e he),fun e=>ah (by subst e;exact V.quiet)⟩⟩
  induction r generalizing g s with
  | leaf=>
   obtain⟨s₀,K,O⟩:=h;obtain⟨r,U⟩:=k _ _ O;exact⟨r,ai r K U⟩
  | node f ak=>
   rcases h with⟨s₀,K,O⟩ | ⟨U,h⟩
   ·obtain⟨r,U⟩:=k _ _ O;exact⟨r,ai r K U⟩
   ·have aa:∀w,∃r:Rk,Fits s w→∃g' s' w' es,stepG P main g w= .go g' w' es∧Jr P main (JQ R) r g' s'∧Fits s' w'∧Fr s w s' w'∧(∀e∈es,Ev s w w' e)∧(s= .quiet→s'= .quiet∧w'=w∧es= #[]):=by
     intro w;by_cases aj:Fits s w
     ·obtain⟨g',s',w',es,K,O,Y⟩:=h w aj;obtain⟨r,U⟩:=ak w O;exact⟨r,fun _=>⟨g',s',w',es,K,U,Y⟩⟩
     ·exact⟨.leaf,fun x=>absurd x aj⟩
    exact⟨.node fun w=>Classical.choose (aa w),.inr ⟨U,fun w f=>Classical.choose_spec (aa w) f⟩⟩
 ghost {Q g s s₀} V h:=by
  obtain⟨r,W⟩:=h;refine⟨r,?_⟩;cases r with
  | leaf=>obtain⟨Z,K,O⟩:=W;exact⟨Z,V.trans K,O⟩
  | node f=>
   rcases W with⟨Z,K,O⟩ | ⟨U,W⟩
   ·exact .inl ⟨Z,V.trans K,O⟩
   ·exact .inr ⟨U,fun w f=>let ⟨g',s',w',es,K,O,Y,ab,ae,ah⟩:=W w (V.fits f);⟨g',s',w',es,K,O,Y,V.fr ab,fun e he=>V.ev (ae e he),fun e=>ah (by subst e;exact V.quiet)⟩⟩
def Lv(P:Program)(Q:Gs_):Nat→Goroutine→Prop
 | 0,g=>Q g .quiet
 | n+1,g=>Q g .quiet∨(g.status= .running∧∃g',(∀w,stepG P false g w= .go g' w #[])∧Lv P Q n g')
def Gb(P:Program):Judge P where
 main:=false
 ok Q g s:=s= .quiet→∃n,Lv P Q n g
 stop h e:=⟨0,by subst e;exact h⟩
 step {Q g s} h e:=by
  obtain⟨g',K,O⟩:=h.2.2 e;obtain⟨n,U⟩:=O rfl;exact⟨n+1,.inr ⟨h.1,g',K,U⟩⟩
 trans {Q R g s} h k e:=by
  obtain⟨n,U⟩:=h e;have:∀n g,Lv P Q n g→∃m,Lv P R m g:=by
   intro n
   induction n with
   | zero=>intro g h;exact k _ _ h rfl
   | succ n V=>
    intro g h;rcases h with h | ⟨W,g',K,O⟩
    ·exact k _ _ h rfl
    ·obtain⟨m,hm⟩:=V g' O;exact⟨m+1,.inr ⟨W,g',K,hm⟩⟩
  exact this n g U
 ghost {Q g s s₀} Y h e:=by subst e;exact h Y.quiet
end Pal
namespace Pal
open Go Go.Conc
def fr(b:Frame)(T:Ay)(ds:Ld_)(todo:Li_):Frame:={b with tmps:=T,todo:=todo,defers:=ds,mode:= .run}
def D9(b:Frame)(T:Ay)(ds:Ld_)(todo:Li_):Frame:={b with tmps:=T,todo:=todo,defers:=ds,mode:= .returning}
def BB(T:Ay):Operand→Value
 | .tmp t=>T.getD t undef
 | .const v=>v
 | .global g=> .pointer (some ⟨g,0,none⟩)
 | .func f=> .func (.func f) #[] #[]
abbrev Env:=List (Nat×Value)
def look:Env→Nat→Option Value
 | [],_=>none
 | (t,v)::L,u=>if t=u then some v else look L u
def ev(L:Env):Operand→Option Value
 | .tmp t=>look L t
 | .const v=>some v
 | .global g=>some (.pointer (some ⟨g,0,none⟩))
 | .func f=>some (.func (.func f) #[] #[])
structure Has (n:Nat) (L:Env) (T:Ay):Prop where
 size:T.size=n
 at_:∀t v,look L t=some v→T.getD t undef=v
theorem Has.ev{n:Nat}{L:Env}{T:Ay}(h:Has n L T){x:Operand}{v:Value}(e:ev L x=some v):BB T x=v:=by
 cases x with
 | tmp t=>exact h.at_ t v e
 | const u=>cases e;rfl
 | global g=>cases e;rfl
 | func f=>cases e;rfl
def Cw(T:Ay):Option Tmp→Value→Ay
 | some d,v=>T.setIfInBounds d v
 | none,_=>T
def AB(L:Env):Option Tmp→Value→Env
 | some d,v=>(d,v)::L
 | none,_=>L
def Bt(n:Nat):Option Tmp→Bool
 | some d=>d<n
 | none=>true
theorem T5(T:Ay)(d:Nat)(v:Value)(h:d<T.size)(t:Nat):(T.setIfInBounds d v).getD t undef=if d=t then v else T.getD t undef:=by
 by_cases e:d=t
 ·subst e;simp [Array.getD_eq_getD_getElem?,h]
 ·simp [Array.getD_eq_getD_getElem?,e]
theorem Has.put{n:Nat}{L:Env}{T:Ay}(h:Has n L T){d:Option Tmp}(K:Bt n d=true)(v:Value):Has n (AB L d v) (Cw T d v):=by
 cases d with
 | none=>exact h
 | some d=>
  have O:d<T.size:=by rw [h.size];simpa [Bt] using K
  refine⟨by simp [Cw,h.size],fun t u hu=>?_⟩;simp only [Cw,T5 T d v O];simp only [AB,look] at hu;split at hu
  ·rename_i e;rw [if_pos e];exact Option.some.inj hu
  ·rename_i e;rw [if_neg e];exact h.at_ t u hu
def Sub:Env→Env→Prop
 | [],_=>True
 | (t,v)::L',L=>look L t=some v∧Sub L' L
theorem Sub.look{L:Env}:∀{L':Env},Sub L' L→∀t v,look L' t=some v→Pal.look L t=some v
 | [],_,t,v,e=>by simp [Pal.look] at e
 | (u,w)::L',h,t,v,e=>by
  simp only [Pal.look] at e
  split at e
  ·rename_i K;subst K;cases e;exact h.1
  ·exact Sub.look h.2 t v e
theorem Has.sub{n:Nat}{L L':Env}{T:Ay}(h:Has n L T)(s:Sub L' L):Has n L' T:=⟨h.size,fun t v e=>h.at_ t v (s.look t v e)⟩
section
variable {P:Program}(J:Judge P)(Q:Gs_)
def JL(b:Frame)(n:Nat)(L:Env)(ds:Ld_)(todo:Li_)(cs:Lf_)(s:St):Prop:=
 ∀T,Has n L T→J.ok Q (G (fr b T ds todo) cs) s
end
section
variable {P:Program}{J:Judge P}{Q:Gs_}{b:Frame}{n:Nat}{L L':Env}{ds:Ld_}{k:Li_}{cs:Lf_}{s s':St}
theorem Judge.C6{g g':Goroutine}(K:g.status= .running)(h:∀w,stepG P J.main g w= .go g' w)(k:J.ok Q g' s):J.ok Q g s:=
 J.step ⟨K,fun w f=>⟨g',s,w,#[],h w,k,f,.refl _ _,by simp⟩,fun e=>⟨g',h,e▸k⟩⟩
theorem GD(h:Sub L' L)(k':JL J Q b n L' ds k cs s):JL J Q b n L ds k cs s:=fun T K=>k' T (K.sub h)
theorem JL.ghost(h:CV s s')(k':JL J Q b n L ds k cs s'):JL J Q b n L ds k cs s:=fun T K=>J.ghost h (k' T K)
theorem JL.skip(h:JL J Q b n L ds k cs s):JL J Q b n L ds (.code .skip::k) cs s:=fun T K=>Judge.C6 rfl (fun w=>by simp [G,stepG,stepG.exec,fr]) (h T K)
theorem JL.label{l:Nat}(h:JL J Q b n L ds k cs s):JL J Q b n L ds (.code (.label l)::k) cs s:=fun T K=>Judge.C6 rfl (fun w=>by simp [G,stepG,stepG.exec,fr]) (h T K)
theorem OA{i:Nat}(h:JL J Q b n L ds k cs s):JL J Q b n L ds (.inBlock i::k) cs s:=fun T K=>Judge.C6 rfl (fun w=>by simp [G,stepG,stepG.exec,fr]) (h T K)
theorem Sg{c:Code}(h:JL J Q b n L ds k cs s):JL J Q b n L ds (.inScope c::k) cs s:=fun T K=>Judge.C6 rfl (fun w=>by simp [G,stepG,stepG.exec,fr]) (h T K)
theorem JL.seq{x y:Code}(h:JL J Q b n L ds (.code x:: .code y::k) cs s):JL J Q b n L ds (.code (.seq x y)::k) cs s:=fun T K=>Judge.C6 rfl (fun w=>by simp [G,stepG,stepG.exec,fr]) (h T K)
theorem JL.block{i:Nat}{c:Code}(h:JL J Q b n L ds (.code c:: .inBlock i::k) cs s):JL J Q b n L ds (.code (.block i c)::k) cs s:=fun T K=>Judge.C6 rfl (fun w=>by simp [G,stepG,stepG.exec,fr]) (h T K)
theorem JL.scope{c:Code}(h:JL J Q b n L ds (.code c:: .inScope c::k) cs s):JL J Q b n L ds (.code (.scope c)::k) cs s:=fun T K=>Judge.C6 rfl (fun w=>by simp [G,stepG,stepG.exec,fr]) (h T K)
theorem IN{c:Code}(h:JL J Q b n L ds (.code c:: .inLoop c::k) cs s):JL J Q b n L ds (.code (.loop c)::k) cs s:=fun T K=>Judge.C6 rfl (fun w=>by simp [G,stepG,stepG.exec,fr]) (h T K)
theorem JL.again{c:Code}(h:JL J Q b n L ds (.code c:: .inLoop c::k) cs s):JL J Q b n L ds (.inLoop c::k) cs s:=fun T K=>Judge.C6 rfl (fun w=>by simp [G,stepG,stepG.exec,fr]) (h T K)
theorem JL.exit{i:Nat}{k':Li_}(K:exitTo i k=some k')(h:JL J Q b n L ds k' cs s):JL J Q b n L ds (.code (.exit i)::k) cs s:=fun T O=>Judge.C6 rfl (fun w=>by simp [G,stepG,stepG.exec,fr,K]) (h T O)
theorem JL.goto{l:Nat}{k':Li_}(K:gotoIn l k=some k')(h:JL J Q b n L ds k' cs s):JL J Q b n L ds (.code (.goto l)::k) cs s:=fun T O=>Judge.C6 rfl (fun w=>by simp [G,stepG,stepG.exec,fr,K]) (h T O)
theorem PQ(T:Ay)(todo:Li_)(x:Operand):(fr b T ds todo).eval x=BB T x:=by cases x <;> rfl
theorem PD(T:Ay)(todo:Li_):(fr b T ds todo).eval=BB T:=funext (PQ T todo)
theorem JL.cond{c:Operand}{x y:Code}{t:Bool}(U:ev L c=some (.bool t))(h:JL J Q b n L ds (.code (if t then x else y)::k) cs s):JL J Q b n L ds (.code (.cond c x y)::k) cs s:=fun T O=>
 Judge.C6 rfl (fun w=>by
  have K:=PQ (b:=b) (ds:=ds) T (.code (.cond c x y)::k) c
  rw [O.ev U] at K
  simp only [fr] at K
  simp [G,stepG,stepG.exec,fr,K]) (h T O)
theorem S5{c:Operand}{x y:Code}(K:ev L c=some (.bool true))(h:JL J Q b n L ds (.code x::k) cs s):JL J Q b n L ds (.code (.cond c x y)::k) cs s:=JL.cond K h
theorem Tp{c:Operand}{x y:Code}(K:ev L c=some (.bool false))(h:JL J Q b n L ds (.code y::k) cs s):JL J Q b n L ds (.code (.cond c x y)::k) cs s:=JL.cond K h
theorem Py{c:Operand}{x y:Code}{t:Bool}(K:ev L c=some (.bool t))(O:t=true→JL J Q b n L ds (.code x::k) cs s)(U:t=false→JL J Q b n L ds (.code y::k) cs s):JL J Q b n L ds (.code (.cond c x y)::k) cs s:=by
 cases t
 ·exact JL.cond K (U rfl)
 ·exact JL.cond K (O rfl)
theorem NL{c:Operand}{x y:Code}{p:Prop} [Decidable p] (K:ev L c=some (.bool (decide p)))(O:p→JL J Q b n L ds (.code x::k) cs s)(U:¬p→JL J Q b n L ds (.code y::k) cs s):JL J Q b n L ds (.code (.cond c x y)::k) cs s:=
 Py K (fun h=>O (of_decide_eq_true h)) (fun h=>U (of_decide_eq_false h))
theorem JL.region{id:Nat}{ops:Ao_}(h:JL J Q b n L ds (.inRegion ops (List.range ops.size)::k) cs s):JL J Q b n L ds (.code (.region id ops false)::k) cs s:=fun T K=>Judge.C6 rfl (fun w=>by simp [G,stepG,stepG.exec,fr]) (h T K)
theorem JL.done{ops:Ao_}(h:JL J Q b n L ds k cs s):JL J Q b n L ds (.inRegion ops []::k) cs s:=fun T K=>Judge.C6 rfl (fun w=>by simp [G,stepG,stepG.exec,fr]) (h T K)
theorem P6{id:Nat}{ops:Ao_}(K:s.q=false)(hm:P.follows .mixedOrders=true)(h:∀t,JL J Q b n L ds (.inRegion ops (Region.linearise .any ops t)::k) cs s):JL J Q b n L ds (.code (.region id ops true)::k) cs s:=fun T O=>by
 refine J.step ⟨rfl,fun w f=>⟨_,s,{w with drawn:=w.drawn+1},#[],?_,h (w.tape w.drawn (.order b.fn id)) T O,⟨f.e,f.h,f.d⟩,⟨Nat.le_refl _,fun _ _ _=>rfl,fun _ h=> .inl h,fun _ _ h=>h,fun _ h=> .inl h,rfl,rfl,rfl⟩,by simp⟩,fun e=>by subst e;cases K⟩
 simp [G,stepG,stepG.exec,fr,choose,Sem.run,Question.forced,Question.cut,Region.schedule,hm]
theorem FW(T:Ay)(ops:Ao_)(i:Nat)(rest:List Nat)(v:Value)(o:Oper)(K:ops[i]? =some o):
  (fr b T ds (.inRegion ops (i::rest)::k)).finish v=fr b (Cw T o.dst v) ds (.inRegion ops rest::k):=by
 cases O:o.dst <;> simp [Frame.finish,fr,K,O,Cw]
theorem stepG_op{main:Bool}{T:Ay}{ops:Ao_}{i:Nat}{rest:List Nat}{o:Oper}{w:World}(K:ops[i]? =some o)(hw:Region.wanted o (yielded ops T)=true):
  stepG P main (G (fr b T ds (.inRegion ops (i::rest)::k)) cs) w=
   match b.roundOf,o.op with
   | some l,.defer c=>stepG.apply P true (fr b T ds (.inRegion ops (i::rest)::k)) cs none (do Instr.deferInRound l (← resolve (BB T) c o.type);pure .skip) w
   | _,_=>stepG.apply P true (fr b T ds (.inRegion ops (i::rest)::k)) cs none (execOp (BB T) o) w:=by
 have he:=PD (b:=b) (ds:=ds) T (.inRegion ops (i::rest)::k);simp only [fr] at he;simp only [G,stepG,stepG.exec,fr,K,Option.map_some,Option.getD_some,hw,if_true,stepG.oper,Frame.oper?,he]
 rfl
theorem EL(T:Ay)(todo:Li_):(fr b T ds todo).fn=b.fn:=rfl
theorem GC(T:Ay)(todo:Li_):(fr b T ds todo).todo=todo:=rfl
def upon(J:Judge P)(Q:Gs_)(b:Frame)(T:Ay)(ds:Ld_)(ops:Ao_)(i:Nat)(rest:List Nat)(k:Li_)(cs:Lf_)(dst:Option Tmp):Next→St→Prop
 | .value v,s=>J.ok Q (G (fr b (Cw T dst v) ds (.inRegion ops rest::k)) cs) s
 | .skip,s=>J.ok Q (G (fr b (Cw T dst undef) ds (.inRegion ops rest::k)) cs) s
 | .defer d,s=>J.ok Q (G (fr b (Cw T dst undef) (d::ds) (.inRegion ops rest::k)) cs) s
 | .enter f args,s=>J.ok Q (G (Frame.enter P f args .normal) (fr b T ds (.inRegion ops (i::rest)::k)::cs)) s
 | .round l f tmps assign body,s=>J.ok Q (G (Frame.round l f tmps assign body .normal) (fr b T ds (.inRegion ops (i::rest)::k)::cs)) s
 | _,_=>False
def Mp(J:Judge P)(Q:Gs_)(b:Frame)(T:Ay)(ds:Ld_)(ops:Ao_)(i:Nat)(rest:List Nat)(k:Li_)(cs:Lf_):Halt→St→Prop
 | .panic v,s=>J.ok Q (G ((fr b T ds (.inRegion ops (i::rest)::k)).raise [{v,recovered:=false}]) cs) s
 | _,_=>False
theorem No{s:St}{w w':World}{fn:FuncId}{es:Array Event}(h:∀e∈es,Ev s w w' e):∀e∈seen P fn es,Ev s w w' e:=fun e he=>h e (mem_seen he)
theorem Judge.oper{T:Ay}{ops:Ao_}{i:Nat}{rest:List Nat}{o:Oper}(aa:ops[i]? =some o)(hw:Region.wanted o (yielded ops T)=true)(ak:b.kind≠ .early)
  (ab:b.roundOf=none∨∀c,o.op≠ .defer c)
  (h:lp P (execOp (BB T) o) s (upon J Q b T ds ops i rest k cs o.dst) (Mp J Q b T ds ops i rest k cs)):
  J.ok Q (G (fr b T ds (.inRegion ops (i::rest)::k)) cs) s:=by
 have U:((fr b T ds (.inRegion ops (i::rest)::k)).kind==CallKind.early)=false:=by simpa [fr] using ak
 have ai:∀w,stepG P J.main (G (fr b T ds (.inRegion ops (i::rest)::k)) cs) w=stepG.apply P true (fr b T ds (.inRegion ops (i::rest)::k)) cs none (execOp (BB T) o) w:=by
  intro w;rw [stepG_op aa hw];split
  ·rename_i l c aj e2;rcases ab with ab | ab
   ·rw [ab] at aj;cases aj
   ·exact absurd e2 (ab c)
  ·rfl
 refine J.step ⟨rfl,fun w f=>?_,fun e=>?_⟩
 rotate_left
 ·subst e;simp only [ai];have ae:=fun v=>FW (b:=b) (ds:=ds) (k:=k) T ops i rest v o aa;obtain⟨es,he,V,h⟩:=Nj _ h;have Z:seen P b.fn es= #[]:=MS V;rcases h with⟨nx,K,O⟩ | ⟨x,K,O⟩
  ·cases nx with
   | value v=>exact⟨_,fun w=>by simp [stepG.apply,O,U,GStep.after,G,ae,EL,he,Z],K⟩
   | skip=>exact⟨_,fun w=>by simp [stepG.apply,O,U,GStep.after,G,ae,EL,he,Z],K⟩
   | enter g args=>exact⟨_,fun w=>by simp [stepG.apply,O,U,GStep.after,G,EL,GC,he,Z],K⟩
   | round l g al as am=>exact⟨_,fun w=>by simp [stepG.apply,O,U,GStep.after,G,EL,GC,he,Z],K⟩
   | defer d=>
    have ah:=FW (b:=b) (ds:=d::ds) (k:=k) T ops i rest undef o aa;exact⟨_,fun w=>by rw [← ah];simp [stepG.apply,O,U,GStep.after,G,EL,GC,he,Z];rfl,K⟩
   | _=>exact K.elim
  ·cases x with
   | panic v=>exact⟨_,fun w=>by simp [stepG.apply,O,U,GStep.after,G,EL,GC,he,Z],K⟩
   | _=>exact K.elim
 obtain⟨s',W,Y,an,K⟩:=Lq _ h f;rw [ai];have V:=No (P:=P) (fn:=b.fn) an;have ae:=fun v=>FW (b:=b) (ds:=ds) (k:=k) T ops i rest v o aa;cases O:(execOp (BB T) o).run P w with
 | ok nx w'=>
  rw [O] at W Y K V;simp only [IE] at W Y V;cases nx with
  | value v=>exact⟨_,s',w',seen P b.fn ((execOp (BB T) o).events P w #[])++ #[],by simp [stepG.apply,O,U,GStep.after,G,ae,EL],K,W,Y,by simpa using V⟩
  | skip=>exact⟨_,s',w',seen P b.fn ((execOp (BB T) o).events P w #[])++ #[],by simp [stepG.apply,O,U,GStep.after,G,ae,EL],K,W,Y,by simpa using V⟩
  | enter g args=>exact⟨_,s',w',seen P b.fn ((execOp (BB T) o).events P w #[])++ #[],by simp [stepG.apply,O,U,GStep.after,G,EL,GC],K,W,Y,by simpa using V⟩
  | round l g al as am=>exact⟨_,s',w',seen P b.fn ((execOp (BB T) o).events P w #[])++ #[],by simp [stepG.apply,O,U,GStep.after,G,EL,GC],K,W,Y,by simpa using V⟩
  | defer d=>
   have ah:=FW (b:=b) (ds:=d::ds) (k:=k) T ops i rest undef o aa;exact⟨_,s',w',seen P b.fn ((execOp (BB T) o).events P w #[])++ #[],by
    rw [← ah];simp [stepG.apply,O,U,GStep.after,G,EL,GC];rfl,K,W,Y,by simpa using V⟩
  | _=>exact K.elim
 | halt x w'=>
  rw [O] at W Y K V;simp only [IE] at W Y V;cases x with
  | panic v=>exact⟨_,s',w',seen P b.fn ((execOp (BB T) o).events P w #[])++ #[],by simp [stepG.apply,O,U,GStep.after,G,EL,GC],K,W,Y,by simpa using V⟩
  | _=>exact K.elim
theorem Judge.unwanted{T:Ay}{ops:Ao_}{i:Nat}{rest:List Nat}{o:Oper}(K:ops[i]? =some o)(hw:Region.wanted o (yielded ops T)=false)
  (h:J.ok Q (G (fr b (Cw T o.dst undef) ds (.inRegion ops rest::k)) cs) s):J.ok Q (G (fr b T ds (.inRegion ops (i::rest)::k)) cs) s:=by
 refine Judge.C6 rfl (fun w=>?_) h;have O:=FW (b:=b) (ds:=ds) (k:=k) T ops i rest undef o K;rw [← O];simp [G,stepG,stepG.exec,fr,K,hw]
end
end Pal
namespace Pal
open Go Go.Conc
def Yl(P:Program)(o:Oper)(ρ:Operand→Value)(s:St)(v:Value):Prop:=lp P (execOp ρ o) s (fun nx s'=>nx= .value v∧s'=s) (fun _ _=>False)
def Ej(L:Env)(ρ:Operand→Value):Prop:=∀x v,ev L x=some v→ρ x=v
def A8(L:Env)(ops:Ao_)(o:Oper):Option Bool:=
 match o.guard with
 | none=>some true
 | some (j,K)=>match(ops[j]?).bind (·.dst) with
  | some d=>match look L d with
   | some (.bool b)=>some (b==K)
   | some (.tuple _)=>some false
   | _=>none
  | none=>none
section
variable {P:Program}{J:Judge P}{Q:Gs_}{b:Frame}{n:Nat}{L L':Env}{ds:Ld_}{k:Li_}{cs:Lf_}{s s':St}
theorem Has.F2{T:Ay}(h:Has n L T):Ej L (BB T):=fun _ _ e=>h.ev e
theorem getD_some{T:Ay}{d:Nat}{c:Bool}(h:T.getD d undef= .bool c):T[d]? =some (.bool c):=by
 rw [Array.getD_eq_getD_getElem?] at h;cases K:T[d]? with
 | none=>rw [K] at h;simp [undef] at h
 | some v=>rw [K] at h;simp at h;rw [h]
theorem CR{T:Ay}{ops:Ao_}{o:Oper}{c:Bool}(h:Has n L T)(hw:A8 L ops o=some c):Region.wanted o (yielded ops T)=c:=by
 unfold A8 at hw;unfold Region.wanted;cases K:o.guard with
 | none=>rw [K] at hw;simpa using hw
 | some p=>
  obtain⟨j,W⟩:=p;rw [K] at hw;simp only at hw ⊢;cases O:(ops[j]?).bind (·.dst) with
  | none=>rw [O] at hw;simp at hw
  | some d=>
   rw [O] at hw;simp only at hw;cases U:look L d with
   | none=>rw [U] at hw;simp at hw
   | some v=>
    rw [U] at hw;cases v with
    | bool x=>
     simp only [Option.some.injEq] at hw;have:=getD_some (h.at_ d _ U);simp only [yielded,O,Option.bind_some,this];simp [← hw]
    | tuple c=>
     simp only [Option.some.injEq] at hw;have K:=h.at_ d _ U;simp only [yielded,O,Option.bind_some];cases V:T[d]? with
     | none=>simp [← hw]
     | some u=>
      have:u= .tuple c:=by rw [Array.getD_eq_getD_getElem?,V] at K;exact K
      subst this;simp [← hw]
    | _=>simp at hw
def Db:Op→Bool | .defer _=>true | _=>false
def CL(b:Frame)(n:Nat)(o:Oper):Bool:=(b.kind != .early)&&(Bt n o.dst&& !Db o.op)
theorem Yl.out{P:Program}{o:Oper}{ρ:Operand→Value}{s:St}{v:Value}(h:Yl P o ρ s v):Pal.lp P (execOp ρ o) s (fun nx s'=>nx= .value v∧s'=s) (fun _ _=>False):=by unfold Yl at h;exact h
theorem A1{ops:Ao_}{i:Nat}{rest:List Nat}{o:Oper}{v:Value}(V:ops[i]? =some o)(hw:A8 L ops o=some true)(K:CL b n o=true)
  (h:∀ρ,Ej L ρ→Yl P o ρ s v) (W:JL J Q b n (AB L o.dst v) ds (.inRegion ops rest::k) cs s):
  JL J Q b n L ds (.inRegion ops (i::rest)::k) cs s:=fun T O=>by
 simp only [CL,Bool.and_eq_true] at K
 obtain⟨K,Y,U⟩:=K
 refine Judge.oper V (CR O hw) (by simpa using K) (.inr fun c Z=>by rw [Z] at U;simp [Db] at U) (Di _ (h _ O.F2).out ?_ ?_)
 ·rintro nx s' ⟨rfl,rfl⟩
  exact W _ (O.put Y v)
 ·intro _ _ aa;exact aa.elim
theorem Rv{ops:Ao_}{i:Nat}{rest:List Nat}{o:Oper}(O:ops[i]? =some o)(hw:A8 L ops o=some false)(U:Bt n o.dst=true)
  (V:JL J Q b n (AB L o.dst undef) ds (.inRegion ops rest::k) cs s):
  JL J Q b n L ds (.inRegion ops (i::rest)::k) cs s:=fun _ K=>
 Judge.unwanted O (CR K hw) (V _ (K.put U undef))
theorem JL.op{ops:Ao_}{i:Nat}{rest:List Nat}{o:Oper}(Y:ops[i]? =some o)(hw:A8 L ops o=some true)(K:CL b n o=true)
  (h:∀ρ,Ej L ρ→lp P (execOp ρ o) s (fun nx s'=>match nx with
   | .value v=>JL J Q b n (AB L o.dst v) ds (.inRegion ops rest::k) cs s'
   | .skip=>JL J Q b n (AB L o.dst undef) ds (.inRegion ops rest::k) cs s'
   | _=>False) (fun _ _=>False)):
  JL J Q b n L ds (.inRegion ops (i::rest)::k) cs s:=fun T O=>by
 simp only [CL,Bool.and_eq_true] at K
 obtain⟨K,V,W⟩:=K
 refine Judge.oper Y (CR O hw) (by simpa using K) (.inr fun c Z=>by rw [Z] at W;simp [Db] at W) (Di _ (h _ O.F2) ?_ ?_)
 ·intro nx s' U
  cases nx with
  | value v=>exact U _ (O.put V v)
  | skip=>exact U _ (O.put V undef)
  | _=>exact U.elim
 ·intro _ _ aa;exact aa.elim
end
section
variable {P:Program}{ρ:Operand→Value}{s:St}{x y z:Operand}{d:Option Tmp}{t u ty:TypeId}{p:String}{af:Ae_}{g:On_}{v:Value}{kd kd':IntKind}{m m':Int}
theorem Yl.move(K:ρ x=v):Yl P ⟨d,.move x,ty,p,af,g⟩ ρ s v:=by simp [Yl,execOp,lp,pure,K]
theorem Yl.assign(K:ρ x=v):Yl P ⟨d,.assign x,ty,p,af,g⟩ ρ s v:=by simp [Yl,execOp,lp,pure,K]
theorem SY(K:ρ z= .bool true)(O:ρ x=v):Yl P ⟨d,.pick z x y,ty,p,af,g⟩ ρ s v:=by simp [Yl,execOp,lp,pure,bind,Sem.bind,asBool,K,O]
theorem Tl(K:ρ z= .bool false)(O:ρ y=v):Yl P ⟨d,.pick z x y,ty,p,af,g⟩ ρ s v:=by simp [Yl,execOp,lp,pure,bind,Sem.bind,asBool,K,O]
theorem Yl.lss(K:ρ x= .int kd m)(O:ρ y= .int kd m'):Yl P ⟨d,.binOp .lss t x y u,ty,p,af,g⟩ ρ s (.bool (decide (m<m'))):=by
 simp [Yl,execOp,lp,pure,bind,Sem.bind,K,O,eqGuard,Go.binOp,Op.intCmp]
theorem Yl.leq(K:ρ x= .int kd m)(O:ρ y= .int kd m'):Yl P ⟨d,.binOp .leq t x y u,ty,p,af,g⟩ ρ s (.bool (decide (m≤m'))):=by
 simp [Yl,execOp,lp,pure,bind,Sem.bind,K,O,eqGuard,Go.binOp,Op.intCmp]
theorem Yl.gtr(K:ρ x= .int kd m)(O:ρ y= .int kd m'):Yl P ⟨d,.binOp .gtr t x y u,ty,p,af,g⟩ ρ s (.bool (decide (m'<m))):=by
 simp [Yl,execOp,lp,pure,bind,Sem.bind,K,O,eqGuard,Go.binOp,Op.intCmp]
theorem Yl.geq(K:ρ x= .int kd m)(O:ρ y= .int kd m'):Yl P ⟨d,.binOp .geq t x y u,ty,p,af,g⟩ ρ s (.bool (decide (m'≤m))):=by
 simp [Yl,execOp,lp,pure,bind,Sem.bind,K,O,eqGuard,Go.binOp,Op.intCmp]
theorem Yl.eql(K:ρ x= .int kd m)(O:ρ y= .int kd m'):Yl P ⟨d,.binOp .eql t x y u,ty,p,af,g⟩ ρ s (.bool (decide (m=m'))):=by
 simp [Yl,execOp,lp,pure,bind,Sem.bind,K,O,eqGuard,Go.binOp,Op.intCmp];rfl
theorem Yl.neq(K:ρ x= .int kd m)(O:ρ y= .int kd m'):Yl P ⟨d,.binOp .neq t x y u,ty,p,af,g⟩ ρ s (.bool (!decide (m=m'))):=by
 simp [Yl,execOp,lp,pure,bind,Sem.bind,K,O,eqGuard,Go.binOp,Op.intCmp];rfl
theorem Yl.add(K:ρ x= .int kd m)(O:ρ y= .int kd m'):Yl P ⟨d,.binOp .add t x y u,ty,p,af,g⟩ ρ s (.int kd (kd.wrap (m+m'))):=by
 simp [Yl,execOp,lp,pure,bind,Sem.bind,K,O,eqGuard,Go.binOp,Op.intArith]
theorem Yl.sub(K:ρ x= .int kd m)(O:ρ y= .int kd m'):Yl P ⟨d,.binOp .sub t x y u,ty,p,af,g⟩ ρ s (.int kd (kd.wrap (m - m'))):=by
 simp [Yl,execOp,lp,pure,bind,Sem.bind,K,O,eqGuard,Go.binOp,Op.intArith]
theorem Yl.mul(K:ρ x= .int kd m)(O:ρ y= .int kd m'):Yl P ⟨d,.binOp .mul t x y u,ty,p,af,g⟩ ρ s (.int kd (kd.wrap (m*m'))):=by
 simp [Yl,execOp,lp,pure,bind,Sem.bind,K,O,eqGuard,Go.binOp,Op.intArith]
theorem Ij{a:Int}(h: -9223372036854775808≤a∧a≤9223372036854775807):IntKind.i64.wrap a=a:=by
 simp only [IntKind.wrap,IntKind.bits,IntKind.signed];simp;split <;> omega
theorem Uu(K:ρ x= .int .i64 m)(O:ρ y= .int .i64 m')(hb: -9223372036854775808≤m+m'∧m+m'≤9223372036854775807):Yl P ⟨d,.binOp .add t x y u,ty,p,af,g⟩ ρ s (.int .i64 (m+m')):=by
 have:=Yl.add (P:=P) (s:=s) (d:=d) (t:=t) (u:=u) (ty:=ty) (p:=p) (af:=af) (g:=g) K O;rwa [Ij hb] at this
theorem UL(K:ρ x= .int .i64 m)(O:ρ y= .int .i64 m')(hb: -9223372036854775808≤m - m'∧m - m'≤9223372036854775807):Yl P ⟨d,.binOp .sub t x y u,ty,p,af,g⟩ ρ s (.int .i64 (m - m')):=by
 have:=Yl.sub (P:=P) (s:=s) (d:=d) (t:=t) (u:=u) (ty:=ty) (p:=p) (af:=af) (g:=g) K O;rwa [Ij hb] at this
theorem Vo(K:ρ x= .int .i64 m)(O:ρ y= .int .i64 m')(hb: -9223372036854775808≤m*m'∧m*m'≤9223372036854775807):Yl P ⟨d,.binOp .mul t x y u,ty,p,af,g⟩ ρ s (.int .i64 (m*m')):=by
 have:=Yl.mul (P:=P) (s:=s) (d:=d) (t:=t) (u:=u) (ty:=ty) (p:=p) (af:=af) (g:=g) K O;rwa [Ij hb] at this
theorem Yl.rem(K:ρ x= .int kd m)(O:ρ y= .int kd m')(U:m'≠0):Yl P ⟨d,.binOp .rem t x y u,ty,p,af,g⟩ ρ s (.int kd (m.tmod m')):=by
 simp [Yl,execOp,lp,pure,bind,Sem.bind,K,O,eqGuard,Go.binOp,Op.intDiv,U]
theorem Yl.quo(K:ρ x= .int kd m)(O:ρ y= .int kd m')(U:m'≠0):Yl P ⟨d,.binOp .quo t x y u,ty,p,af,g⟩ ρ s (.int kd (kd.wrap (m.tdiv m'))):=by
 simp [Yl,execOp,lp,pure,bind,Sem.bind,K,O,eqGuard,Go.binOp,Op.intDiv,U]
theorem Yl.and(K:ρ x= .int kd m)(O:ρ y= .int kd m'):Yl P ⟨d,.binOp .and t x y u,ty,p,af,g⟩ ρ s (.int kd (kd.wrap (BitVec.ofInt kd.bits m&&& BitVec.ofInt kd.bits m').toNat)):=by
 simp [Yl,execOp,lp,pure,bind,Sem.bind,K,O,eqGuard,Go.binOp,Op.intBits]
theorem Yl.or(K:ρ x= .int kd m)(O:ρ y= .int kd m'):Yl P ⟨d,.binOp .or t x y u,ty,p,af,g⟩ ρ s (.int kd (kd.wrap (BitVec.ofInt kd.bits m ||| BitVec.ofInt kd.bits m').toNat)):=by
 simp [Yl,execOp,lp,pure,bind,Sem.bind,K,O,eqGuard,Go.binOp,Op.intBits]
theorem Yl.xor(K:ρ x= .int kd m)(O:ρ y= .int kd m'):Yl P ⟨d,.binOp .xor t x y u,ty,p,af,g⟩ ρ s (.int kd (kd.wrap (BitVec.ofInt kd.bits m ^^^ BitVec.ofInt kd.bits m').toNat)):=by
 simp [Yl,execOp,lp,pure,bind,Sem.bind,K,O,eqGuard,Go.binOp,Op.intBits]
theorem Yl.shl(K:ρ x= .int kd m)(O:ρ y= .int kd' m')(U:0≤m'):Yl P ⟨d,.binOp .shl t x y u,ty,p,af,g⟩ ρ s (.int kd (kd.wrap (m*2 ^ (min m'.toNat kd.bits)))):=by
 have:¬m'<0:=by omega
 simp [Yl,execOp,lp,pure,bind,Sem.bind,K,O,eqGuard,Go.binOp,Op.shift,this]
theorem Yl.shr(K:ρ x= .int kd m)(O:ρ y= .int kd' m')(U:0≤m'):Yl P ⟨d,.binOp .shr t x y u,ty,p,af,g⟩ ρ s (.int kd (m.fdiv (2 ^ (min m'.toNat kd.bits)))):=by
 have:¬m'<0:=by omega
 simp [Yl,execOp,lp,pure,bind,Sem.bind,K,O,eqGuard,Go.binOp,Op.shift,this]
theorem Yl.not{c:Bool}(K:ρ x= .bool c):Yl P ⟨d,.unOp .not t x,ty,p,af,g⟩ ρ s (.bool (!c)):=by
 simp [Yl,execOp,lp,pure,bind,Sem.bind,K,Op.unary]
theorem D8(ht:P.underlying t=some (.int kd'))(hu:P.underlying u=some (.int kd))(K:ρ x= .int kd' m):Yl P ⟨d,.convert t u x,ty,p,af,g⟩ ρ s (.int kd (kd.wrap m)):=by
 simp [Yl,execOp,lp,pure,bind,Sem.bind,K,Go.convert,underlying,program,ht,hu,Conv.intToInt]
theorem Yl.extract{vs:Ay}{i:Nat}(K:ρ x= .tuple vs)(hi:vs[i]? =some v):Yl P ⟨d,.extract x i,ty,p,af,g⟩ ρ s v:=by
 simp [Yl,execOp,lp,pure,bind,Sem.bind,K,Instr.extract,hi]
theorem Yl.nilCheck{a:Addr}(K:ρ x= .pointer (some a)):Yl P ⟨d,.nilCheck x,ty,p,af,g⟩ ρ s (.pointer (some a)):=by
 simp [Yl,execOp,lp,pure,K]
theorem Yl.len{a:Option Addr}{e:TypeId}{l c:Nat}{ats:Array TypeId}(K:ats[0]? =some t)(ht:P.underlying t=some (.slice e))(O:ρ x= .slice a l c):
  Yl P ⟨d,.call ⟨.builtin .len,#[x],ats⟩,ty,p,af,g⟩ ρ s (.int .i64 l):=by
 simp [Yl,execOp,lp,pure,bind,Sem.bind,O,resolve,invoke,builtin,Builtin.len_,K,underlying,program,ht,goInt]
theorem ES{K:TypeDesc}(ht:P.underlying t=some K)(O:∀ms,K≠ .interface ms)(U:ρ x=v):Yl P ⟨d,.makeInterface t x,ty,p,af,g⟩ ρ s (.iface t v):=by
 have:lp P (Instr.makeInterface t v) s (fun r s'=>r= .iface t v∧s'=s) (fun _ _=>False):=by
  unfold Instr.makeInterface;simp only [lp,bind,Sem.bind,underlying,program,ht];cases K <;> first | exact⟨rfl,rfl⟩ | exact absurd rfl (O _)
 simp only [Yl,execOp,U];exact AF _ _ (Di _ this (fun r s' ⟨V,W⟩=>⟨by rw [V],W⟩) (fun _ _ h=>h))
theorem Ii{fn:Fn}{a c:Array Operand}{K O:Ay}(U:a.map ρ=K)(V:c.map ρ=O):Yl P ⟨d,.makeFunc fn a c,ty,p,af,g⟩ ρ s (.func fn K O):=by
 simp [Yl,execOp,lp,pure,bind,Sem.bind,Instr.makeFunc,U,V]
end
attribute [irreducible] Yl
end Pal
namespace Pal
open Go Go.Conc
def Le(E E':LH):Prop:=∀b o,E b=some o→E' b=some o
theorem Le.refl(E:LH):Le E E:=fun _ _ h=>h
theorem Le.trans{E E' K:LH}(h:Le E E')(k:Le E' K):Le E K:=fun b o x=>k b o (h b o x)
theorem Ap{E:LH}:Le E E:=Le.refl E
theorem Le.Ab{a b c:LH}(h:Le a b)(k:Le b c):Le a c:=h.trans k
def A7:List (Nat×Obj)→LH→LH
 | [],H=>H
 | (b,o)::B,H=>fun x=>if x=b then some o else A7 B H x
def mk(E H:LH)(B:List (Nat×Obj)):St:=⟨E,A7 B H,false⟩
def Nd(E H:LH):List (Nat×Obj)→Prop
 | []=>True
 | (b,_)::B=>E b=none∧H b=none∧(∀p∈B,p.1≠b)∧Nd E H B
theorem OO{H:LH}{b:Nat}:∀{B:List (Nat×Obj)},H b=none→(∀p∈B,p.1≠b)→A7 B H b=none
 | [],h,_=>h
 | (c,o)::B,h,hb=>by
  have K:b≠c:=fun e=>hb (c,o) (by simp) e.symm
  simp only [A7,if_neg K]
  exact OO h fun p O=>hb p (List.mem_cons_of_mem _ O)
theorem Gy{H:LH}{b:Nat}:∀{B:List (Nat×Obj)},A7 B H b=none→H b=none∧∀p∈B,p.1≠b
 | [],h=>⟨h,by simp⟩
 | (c,o)::B,h=>by
  simp only [A7] at h
  split at h
  ·cases h
  ·rename_i O;obtain⟨U,V⟩:=Gy h;refine⟨U,fun p K=>?_⟩;rcases List.mem_cons.1 K with rfl | K
   ·exact fun e=>O e.symm
   ·exact V p K
theorem Ow{H:LH}{x:Nat}{o:Obj}{r:Nat}:∀{B:List (Nat×Obj)},(∀p∈B,p.1≠r)→A7 (B++ [(r,o)]) H x=if x=r then some o else A7 B H x
 | [],_=>rfl
 | (c,u)::B,h=>by
  simp only [List.cons_append,A7]
  by_cases e:x=c
  ·subst e
   have:x≠r:=fun e=>h (x,u) (by simp) e;simp [this]
  ·simp only [if_neg e];exact Ow fun p K=>h p (List.mem_cons_of_mem _ K)
theorem Nd.append{E H:LH}{r:Nat}{o:Obj}(O:E r=none)(U:H r=none):∀{B:List (Nat×Obj)},(∀p∈B,p.1≠r)→Nd E H B→Nd E H (B++ [(r,o)])
 | [],_,_=>⟨O,U,by simp,trivial⟩
 | (c,u)::B,h,V=>by
  obtain⟨W,Y,Z,aa⟩:=V
  refine⟨W,Y,fun p K=>?_,Nd.append O U (fun p K=>h p (List.mem_cons_of_mem _ K)) aa⟩
  rcases List.mem_append.1 K with K | K
  ·exact Z p K
  ·simp at K;subst K;exact fun e=>h (c,u) (by simp) e.symm
theorem HQ{E H:LH}{b:Nat}{o:Obj}:∀{B:List (Nat×Obj)} {i:Nat},Nd E H B→B[i]? =some (b,o)→A7 B H b=some o
 | [],_,_,h=>by simp at h
 | (c,u)::B,0,_,h=>by simp at h;obtain⟨rfl,rfl⟩:=h;simp [A7]
 | (c,u)::B,i+1,K,h=>by
  simp at h
  have O:b≠c:=K.2.2.1 (b,o) (List.mem_of_getElem? h)
  simp only [A7,if_neg O]
  exact HQ K.2.2.2 h
theorem Pa{E H:LH}{b:Nat}{o o':Obj}:∀{B:List (Nat×Obj)} {i:Nat},Nd E H B→B[i]? =some (b,o)→A7 (B.set i (b,o')) H=fun x=>if x=b then some o' else A7 B H x
 | [],_,_,h=>by simp at h
 | (c,u)::B,0,_,h=>by
  simp at h;obtain⟨rfl,rfl⟩:=h
  funext x
  simp only [List.set_cons_zero,A7]
  split <;> rfl
 | (c,u)::B,i+1,K,h=>by
  simp at h
  have O:b≠c:=K.2.2.1 (b,o) (List.mem_of_getElem? h)
  funext x
  simp only [List.set_cons_succ,A7]
  rw [Pa K.2.2.2 h]
  by_cases e:x=c
  ·subst e;simp [Ne.symm O]
  ·simp [e]
theorem Nd.set{E H:LH}{b:Nat}{o o':Obj}:∀{B:List (Nat×Obj)} {i:Nat},Nd E H B→B[i]? =some (b,o)→Nd E H (B.set i (b,o'))
 | [],_,_,h=>by simp at h
 | (c,u)::B,0,K,h=>by simp at h;obtain⟨rfl,rfl⟩:=h;exact K
 | (c,u)::B,i+1,K,h=>by
  simp at h
  refine⟨K.1,K.2.1,fun p O=>?_,K.2.2.2.set h⟩
  have hm:=List.mem_or_eq_of_mem_set O
  rcases hm with hm | rfl
  ·exact K.2.2.1 p hm
  ·exact K.2.2.1 (b,o) (List.mem_of_getElem? h)
theorem Nd.Qj{E H:LH}{b:Nat}{o:Obj}:∀{B:List (Nat×Obj)} {i:Nat},Nd E H B→B[i]? =some (b,o)→E b=none
 | [],_,_,h=>by simp at h
 | (c,u)::B,0,K,h=>by simp at h;obtain⟨rfl,rfl⟩:=h;exact K.1
 | (c,u)::B,i+1,K,h=>by simp at h;exact Nd.Qj K.2.2.2 h
theorem M4{E H:LH}{B:List (Nat×Obj)}{i b:Nat}{o:Obj}(K:Nd E H B)(h:B[i]? =some (b,o)):(mk E H B).get b=some o:=by
 unfold St.get mk;simp only [K.Qj h,HQ K h]
theorem Si{E H:LH}{B:List (Nat×Obj)}{b:Nat}{o:Obj}(h:E b=some o):(mk E H B).get b=some o:=by
 unfold St.get mk;simp only [h]
theorem Pq{E H:LH}{B:List (Nat×Obj)}{i b off:Nat}{c:Ay}{e:TypeId}{f:Nat×Nat}{v:Value}(K:Nd E H B)(h:B[i]? =some (b,.cells c e f))(O:c[off]? =some v):(mk E H B).cell? ⟨b,off,none⟩=some v:=by
 unfold St.cell?;rw [M4 K h];exact O
theorem S6{E H:LH}{B:List (Nat×Obj)}{b off:Nat}{c:Ay}{e:TypeId}{f:Nat×Nat}{v:Value}(h:E b=some (.cells c e f))(K:c[off]? =some v):(mk E H B).cell? ⟨b,off,none⟩=some v:=by
 unfold St.cell?;rw [Si h];exact K
section
variable {P:Program}{J:Judge P}{Q:Gs_}{b:Frame}{n:Nat}{L L':Env}{ds:Ld_}{k:Li_}{cs:Lf_}{E H:LH}{B B':List (Nat×Obj)}
theorem IT{r:Nat}(O:(mk E H B).E r=none)(U:(mk E H B).H r=none)(o:Obj)(V:Nd E H B):Nd E H (B++ [(r,o)])∧(mk E H B).upd r o=mk E H (B++ [(r,o)]):=by
 obtain⟨W,K⟩:=Gy U;refine⟨Nd.append O W K V,?_⟩;unfold St.upd mk;congr 1;funext x;exact(Ow K).symm
theorem Wv{i bk:Nat}{o o':Obj}(K:Nd E H B)(h:B[i]? =some (bk,o)):(mk E H B).upd bk o'=mk E H (B.set i (bk,o')):=by
 unfold St.upd mk;congr 1;exact(Pa K h).symm
theorem JL.drop(B':List (Nat×Obj))(h:∀p∈B',∃i:Nat,B[i]? =some p)(U:Nd E H B)(k':JL J Q b n L ds k cs (mk E H B')):JL J Q b n L ds k cs (mk E H B):=
 JL.ghost (s':=mk E H B') ⟨fun _ _ h=>h,fun x o O=>by
  show A7 B H x=some o
  have key:∀{B':List (Nat×Obj)},(∀p∈B',∃i:Nat,B[i]? =some p)→A7 B' H x=some o→A7 B H x=some o:=by
   intro B'
   induction B' with
   | nil=>
    intro _ O
    have aa:∀p∈B,p.1≠x:=by
     intro p K e
     have:∀{B:List (Nat×Obj)},Nd E H B→p∈B→H p.1=none:=by
      intro B U K
      induction B with
      | nil=>simp at K
      | cons q B V=>
       rcases List.mem_cons.1 K with rfl | K
       ·exact U.2.1
       ·exact V U.2.2.2 K
     have Y:=this U K
     rw [e] at Y
     have Z:H x=some o:=O
     rw [Y] at Z;cases Z
    have:∀{B:List (Nat×Obj)},(∀p∈B,p.1≠x)→A7 B H x=H x:=by
     intro B W
     induction B with
     | nil=>rfl
     | cons q B V=>
      have ab:x≠q.1:=fun e=>W q (by simp) e.symm
      obtain⟨c,u⟩:=q
      simp only [A7,if_neg ab]
      exact V fun p K=>W p (List.mem_cons_of_mem _ K)
    rw [this aa];exact O
   | cons q B' V=>
    intro W O
    obtain⟨c,u⟩:=q
    simp only [A7] at O
    split at O
    ·rename_i e;subst e;cases O
     obtain⟨i,hi⟩:=W (x,o) (by simp)
     exact HQ U hi
    ·exact V (fun p K=>W p (List.mem_cons_of_mem _ K)) O
  exact key h O,fun _ _ h=> .inl h,rfl⟩ k'
theorem MT{x:Nat}:∀{B:List (Nat×Obj)} {i:Nat} {bk:Nat} {o u:Obj},Nd E H B→B[i]? =some (bk,o)→A7 (B.eraseIdx i) H x=some u→x≠bk∧A7 B H x=some u
 | [],_,_,_,_,_,h,_=>by simp at h
 | (c,v)::B,0,bk,o,u,O,h,K=>by
  simp at h;obtain⟨rfl,rfl⟩:=h
  simp only [List.eraseIdx_cons_zero] at K
  have U:x≠c:=by
   intro e;subst e;rw [OO O.2.1 O.2.2.1] at K;cases K
  exact⟨U,by simp only [A7,if_neg U];exact K⟩
 | (c,v)::B,i+1,bk,o,u,O,h,K=>by
  simp at h;simp only [List.eraseIdx_cons_succ,A7] at K ⊢;split at K
  ·rename_i e;subst e;rw [if_pos rfl];exact⟨fun e=>O.2.2.1 (bk,o) (List.mem_of_getElem? h) e.symm,K⟩
  ·rename_i e;rw [if_neg e];exact MT O.2.2.2 h K
theorem JL.freeze(i:Nat){bk:Nat}{o:Obj}(K:Nd E H B)(h:B[i]? =some (bk,o))
  (k':∀E',Le E E'→E' bk=some o→Nd E' H (B.eraseIdx i)→JL J Q b n L ds k cs (mk E' H (B.eraseIdx i))):JL J Q b n L ds k cs (mk E H B):=by
 have ae:=List.mem_of_getElem? h;have ah:E bk=none∧H bk=none:=by
  have:∀{B:List (Nat×Obj)},Nd E H B→(bk,o)∈B→E bk=none∧H bk=none:=by
   intro B K O
   induction B with
   | nil=>simp at O
   | cons q B V=>
    rcases List.mem_cons.1 O with rfl | O
    ·exact⟨K.1,K.2.1⟩
    ·exact V K.2.2.2 O
  exact this K ae
 let E':LH:=fun x=>if x=bk then some o else E x
 have Z:E' bk=some o:=by simp [E']
 have hle:Le E E':=fun x u U=>by
  have:x≠bk:=fun e=>by subst e;rw [ah.1] at U;cases U
  simp [E',this,U]
 have ai:Nd E' H (B.eraseIdx i):=by
  have:∀{B:List (Nat×Obj)} {i:Nat},Nd E H B→B[i]? =some (bk,o)→Nd E' H (B.eraseIdx i)∧∀p∈B.eraseIdx i,p.1≠bk:=by
   intro B
   induction B with
   | nil=>intro i _ h;simp at h
   | cons q B V=>
    obtain⟨c,v⟩:=q;intro i K h;have up:∀{B:List (Nat×Obj)},Nd E H B→(∀p∈B,p.1≠bk)→Nd E' H B:=by
     intro B K aa
     induction B with
     | nil=>trivial
     | cons q B aj=>exact⟨by simpa [E',aa q (by simp)] using K.1,K.2.1,K.2.2.1,aj K.2.2.2 fun p O=>aa p (List.mem_cons_of_mem _ O)⟩
    cases i with
    | zero=>
     simp at h;obtain⟨rfl,rfl⟩:=h;exact⟨up K.2.2.2 K.2.2.1,K.2.2.1⟩
    | succ i=>
     simp at h;obtain⟨W,Y⟩:=V K.2.2.2 h;have ab:c≠bk:=fun e=>K.2.2.1 (bk,o) (List.mem_of_getElem? h) e.symm;refine⟨⟨by simpa [E',ab] using K.1,K.2.1,fun p O=>K.2.2.1 p (List.mem_of_mem_eraseIdx O),W⟩,fun p O=>?_⟩;rcases List.mem_cons.1 O with rfl | O
     ·exact ab
     ·exact Y p O
  exact(this K h).1
 refine JL.ghost (s':=mk E' H (B.eraseIdx i)) ⟨fun x u U=>hle x u U,fun x u U=>(MT K h U).2,fun x u U=>?_,rfl⟩ (k' E' hle Z ai);by_cases e:x=bk
 ·subst e;right;have:u=o:=by have:E' x=some u:=U;rw [Z] at this;exact(Option.some.inj this).symm
  subst this;refine⟨HQ K h,?_⟩;cases ak:(mk E' H (B.eraseIdx i)).H x with
  | none=>rfl
  | some y=>exact absurd rfl (MT K h ak).1
 ·left;have W:E' x=some u:=U;have Y:E' x=E x:=by simp [E',e]
  show E x=some u;rw [← Y];exact W
def Fn(P:Program)(f:FuncId)(args:Ay)(s:St)(R:Value→St→Prop):Prop:=
 ∀(J:Judge P) (Q:Gs_) (c:Frame) (cs:Lf_),(∀v s',R v s'→J.ok Q (G (c.finish v) cs) s')→J.ok Q (G (Frame.enter P f args .normal) (c::cs)) s
def DG(P:Program)(f:FuncId):Bool:=match P.funcs[f]? with | some fn=> !(fn.name== "runtime.NumGoroutine")&&fn.body.isSome | none=>false
def evs(L:Env):List Operand→Option (Lv_)
 | []=>some []
 | x::xs=>match ev L x,evs L xs with | some v,some vs=>some (v::vs) | _,_=>none
theorem Ga{L:Env}{ρ:Operand→Value}(h:Ej L ρ):∀{xs:List Operand} {vs:Lv_},evs L xs=some vs→xs.map ρ=vs
 | [],vs,e=>by simp [evs] at e;subst e;rfl
 | x::xs,vs,e=>by
  simp only [evs] at e
  split at e
  ·rename_i v ws K O
   cases e;rw [List.map_cons,h x v K,Ga h O]
  ·cases e
theorem IK{f:FuncId}{args:Ay}{s:St}{Q:Next→St→Prop}{X:Halt→St→Prop}(K:DG P f=true)(h:Q (.enter f args) s):lp P (callFunc f args) s Q X:=by
 unfold DG at K;unfold callFunc;simp only [bind,Sem.bind,program,lp];cases O:P.funcs[f]? with
 | none=>rw [O] at K;cases K
 | some fn=>
  rw [O] at K;simp only [Bool.and_eq_true,Bool.not_eq_true'] at K;have hb:fn.body.isNone=false:=by cases U:fn.body <;> simp_all
  simp only [K.1,hb,Bool.false_eq_true,if_false];exact h
def BY(P:Program)(f:FuncId)(L:Env)(n:Nat)(s:St)(v:Value):Prop:=∃fn,P.funcs[f]? =some fn∧∀T,Has n L T→lp P (results fn T) s (fun u s'=>u=v∧s'=s) (fun _ _=>False)
theorem Judge.leave{T:Ay}{todo:Li_}{c:Frame}{s:St}{v:Value}{fn:Func}(V:b.kind= .normal)(W:P.funcs[b.fn]? =some fn)(U:lp P (results fn T) s (fun u s'=>u=v∧s'=s) (fun _ _=>False))
  (h:J.ok Q (G (c.finish v) cs) s):J.ok Q (G (D9 b T [] todo) (c::cs)) s:=by
 refine J.step ⟨rfl,fun w f=>?_,fun e=>?_⟩
 rotate_left
 ·subst e;obtain⟨es,he,ab,U⟩:=Nj _ U;have ae:seen P b.fn es= #[]:=MS ab;rcases U with⟨u,⟨rfl,_⟩,O⟩ | ⟨x,K,_⟩
  ·exact⟨_,fun w=>by simp [G,stepG,unwind,D9,W,O,doReturn,V,GStep.after,he,ae],h⟩
  ·exact K.elim
 obtain⟨s',Y,Z,aa,K⟩:=Lq _ U f;cases O:(results fn T).run P w with
 | halt x w'=>rw [O] at K;exact K.elim
 | ok u w'=>
  rw [O] at Y Z aa K;obtain⟨rfl,rfl⟩:=K;exact⟨_,s',w',seen P b.fn ((results fn T).events P w #[])++ #[],by simp [G,stepG,unwind,D9,W,O,doReturn,V,GStep.after],h,Y,Z,by simp only [Array.append_empty];exact No aa⟩
theorem JL.ret{s:St}{c:Frame}{v:Value}(O:b.kind= .normal)(U:b.roundOf=none)(K:BY P b.fn L n s v)(h:J.ok Q (G (c.finish v) cs) s):JL J Q b n L [] (.code .ret::k) (c::cs) s:=fun T V=>by
 obtain⟨fn,W,K⟩:=K
 refine Judge.C6 (g':=G (D9 b T [] (.code .ret::k)) (c::cs)) rfl (fun w=>by simp [G,stepG,stepG.exec,fr,D9,U]) ?_
 exact Judge.leave O W (K T V) h
theorem JL.fin{s:St}{c:Frame}{v:Value}(O:b.kind= .normal)(U:b.roundOf=none)(K:BY P b.fn L n s v)(h:J.ok Q (G (c.finish v) cs) s):JL J Q b n L [] [] (c::cs) s:=fun T V=>by
 obtain⟨fn,W,K⟩:=K
 refine Judge.C6 (g':=G (D9 b T [] []) (c::cs)) rfl (fun w=>by simp [G,stepG,stepG.exec,fr,D9,U]) ?_
 exact Judge.leave O W (K T V) h
theorem BY.one{f:FuncId}{fn:Func}{s:St}{t:Tmp}{v:Value}(K:P.funcs[f]? =some fn)(O:fn.results= #[.tmp t])(h:look L t=some v):BY P f L n s v:=
 ⟨fn,K,fun T U=>by
  have e:results fn T=Sem.pure v:=by
   have:=U.at_ t v h
   simp only [results,O,Array.mapM_eq_mapM_toList]
   show Sem.pure (T.getD t undef)=_
   rw [this]
  rw [e];exact⟨rfl,rfl⟩⟩
theorem BY.none{f:FuncId}{fn:Func}{s:St}(K:P.funcs[f]? =some fn)(O:fn.results= #[]):BY P f L n s (.tuple #[]):=
 ⟨fn,K,fun T U=>by
  have e:results fn T=Sem.pure (.tuple #[]):=by
   simp only [results,O,Array.mapM_eq_mapM_toList]
   rfl
  rw [e];exact⟨rfl,rfl⟩⟩
def Fs:Nat→Lv_→Env
 | _,[]=> []
 | i,v::vs=>(i,v)::Fs (i+1) vs
theorem IL{i:Nat}{vs:Lv_}{t:Nat}{v:Value}(h:look (Fs i vs) t=some v):i≤t∧vs[t - i]? =some v:=by
 induction vs generalizing i with
 | nil=>simp [Fs,look] at h
 | cons u vs K=>
  simp only [Fs,look] at h;split at h
  ·rename_i e;subst e;cases h;simp
  ·rename_i U;obtain⟨V,O⟩:=K h;refine⟨by omega,?_⟩;have:t - i=(t - (i+1))+1:=by omega
   rw [this];simpa using O
end
end Pal
namespace Pal
open Go Go.Conc
def Bs(P:Program)(t:TypeId):Option Nat:=(P.info? t).map (·.size)
def Dk(P:Program)(t:TypeId):Option Bool:=match P.underlying t with | some (.struct _)=>some true | some (.array _ _)=>some true | some _=>some false | none=>none
def zeroOf(P:Program)(t:TypeId):Option Value:=(P.info? t).bind (·.zero)
section
variable {P:Program}{s:St}{t:TypeId}
theorem EG{K:Nat}{Q:Nat→St→Prop}{X:Halt→St→Prop}(h:Bs P t=some K)(k:Q K s):lp P (Go.sizeOf t) s Q X:=by
 unfold Bs at h;simp only [Go.sizeOf,typeInfo,bind,Sem.bind,program,lp];cases hi:P.info? t with
 | none=>rw [hi] at h;cases h
 | some i=>rw [hi] at h;simp at h;subst h;exact k
theorem FU{z:Value}{Q:Value→St→Prop}{X:Halt→St→Prop}(h:zeroOf P t=some z)(k:Q z s):lp P (zeroValue t) s Q X:=by
 unfold zeroOf at h;simp only [zeroValue,typeInfo,bind,Sem.bind,program,lp];cases hi:P.info? t with
 | none=>rw [hi] at h;cases h
 | some i=>
  rw [hi] at h;simp at h;show lp P (match i.zero with | some v=>pure v | none=>unsupported _) s Q X
  rw [h];exact k
theorem JX{c:Bool}{Q:Bool→St→Prop}{X:Halt→St→Prop}(h:Dk P t=some c)(k:Q c s):lp P (isAgg t) s Q X:=by
 unfold Dk at h;simp only [isAgg,underlying,bind,Sem.bind,program,lp];cases hu:P.underlying t with
 | none=>rw [hu] at h;cases h
 | some u=>
  rw [hu] at h;cases u <;> simp at h <;> subst h <;> exact k
theorem Dh{u:TypeDesc}{Q:TypeDesc→St→Prop}{X:Halt→St→Prop}(h:P.underlying t=some u)(k:Q u s):lp P (underlying t) s Q X:=by
 simp only [underlying,bind,Sem.bind,program,lp,h];exact k
theorem PU{a:Addr}{v:Value}{Q:Value→St→Prop}{X:Halt→St→Prop}(h:s.cell? a=some v)(k:Q v s):lp P (load a) s Q X:=⟨rfl,v,h,k⟩
theorem Oq{a:Addr}{Q:Ay→St→Prop}{X:Halt→St→Prop}:∀(vs:Lv_) (i:Nat) (acc:Ay),(∀j v,vs[j]? =some v→s.cell? (a.add (i+j))=some v)→Q (acc++vs.toArray) s→lp P (loadCellsFrom a i vs.length acc) s Q X
 | [],i,acc,_,k=>by simpa [loadCellsFrom,lp,pure] using k
 | v::vs,i,acc,h,k=>by
  simp only [List.length_cons,loadCellsFrom]
  refine AF _ _ (PU (h 0 v rfl) ?_)
  refine Oq vs (i+1) (acc.push v) (fun j u K=>?_) (by simpa using k)
  have:=h (j+1) u (by simpa using K)
  rwa [show i+1+j=i+(j+1) from by omega]
theorem Ov{a:Addr}{vs:Lv_}{m:Nat}{Q:Ay→St→Prop}{X:Halt→St→Prop}(hm:m=vs.length)(h:∀j v,vs[j]? =some v→s.cell? (a.add j)=some v)(k:Q vs.toArray s):lp P (loadCells a m) s Q X:=by
 subst hm;exact Oq vs 0 #[] (fun j v K=>by simpa using h j v K) (by simpa using k)
theorem R9{a:Addr}{v:Value}{Q:Value→St→Prop}{X:Halt→St→Prop}(ht:Dk P t=some false)(h:s.cell? a=some v)(k:Q v s):lp P (loadVar t a) s Q X:=by
 unfold loadVar;refine AF _ _ (JX ht ?_);exact PU h k
theorem OB{a:Addr}{vs:Lv_}{Q:Value→St→Prop}{X:Halt→St→Prop}(ht:Dk P t=some true)(K:Bs P t=some vs.length)(h:∀j v,vs[j]? =some v→s.cell? (a.add j)=some v)(k:Q (.agg vs.toArray) s):lp P (loadVar t a) s Q X:=by
 unfold loadVar;refine AF _ _ (JX ht ?_);show lp P (do let r ← loadCells a (← Go.sizeOf t);pure (Value.agg r)) s Q X
 refine AF (x:=Go.sizeOf t) _ (EG K ?_);refine AF _ _ (Ov rfl h ?_);exact k
end
section
variable {P:Program}{ρ:Operand→Value}{s:St}{x y z:Operand}{d:Option Tmp}{t u ty e:TypeId}{p:String}{af:Ae_}{g:On_}{v:Value}{kd kd':IntKind}{m m':Int}
theorem FE{o:Oper}{sm:Sem Value}(K:execOp ρ o=(do pure (Next.value (← sm))))(h:lp P sm s (fun r s'=>r=v∧s'=s) (fun _ _=>False)):Yl P o ρ s v:=by
 unfold Yl;rw [K];exact AF _ _ (Di _ h (fun r s' ⟨O,U⟩=>⟨by rw [O],U⟩) (fun _ _ h=>h))
theorem Yl.load{a:Addr}(ht:Dk P t=some false)(K:ρ x= .pointer (some a))(h:s.cell? a=some v):Yl P ⟨d,.load t x,ty,p,af,g⟩ ρ s v:=
 FE (sm:=Instr.loadAt t (ρ x)) rfl (by rw [K];exact R9 ht h ⟨rfl,rfl⟩)
theorem FH{a:Addr}{vs:Lv_}(ht:Dk P t=some true)(K:Bs P t=some vs.length)(O:ρ x= .pointer (some a))(h:∀j v,vs[j]? =some v→s.cell? (a.add j)=some v):Yl P ⟨d,.load t x,ty,p,af,g⟩ ρ s (.agg vs.toArray):=
 FE (sm:=Instr.loadAt t (ρ x)) rfl (by rw [O];exact OB ht K h ⟨rfl,rfl⟩)
theorem Yl.fieldAddr{a:Addr}{K:Array Field}{i:Nat}{fl:Field}{O:Nat}(ht:P.underlying t=some (.struct K))(hi:K[i]? =some fl)(U:Bs P fl.type=some (O+1))(V:ρ x= .pointer (some a)):
  Yl P ⟨d,.fieldAddr t x i,ty,p,af,g⟩ ρ s (.pointer (some (a.add fl.offset))):=
 FE (sm:=Instr.fieldAt t (ρ x) i) rfl (by
  rw [V];unfold Instr.fieldAt
  refine AF _ _ (Dh ht ?_)
  simp only [hi,Instr.sureAddr,bind,Sem.bind,pure]
  refine AF (x:=fieldPlace a fl) _ ?_
  unfold fieldPlace
  refine AF _ _ (EG U ?_)
  simp only [Nat.add_eq_zero_iff,Nat.succ_ne_self,and_false,if_false,lp,pure]
  exact⟨trivial,trivial⟩)
theorem Ll{a:Addr}{l c K:Nat}(ht:P.underlying t=some (.slice e))(O:Bs P e=some K)(U:ρ x= .slice (some a) l c)(V:ρ y= .int kd m)(h:0≤m∧m<l):
  Yl P ⟨d,.indexAddr t x y,ty,p,af,g⟩ ρ s (.pointer (some (a.add (m.toNat*K)))):=
 FE (sm:=Instr.indexAt t (ρ x) (ρ y)) rfl (by
  rw [U,V];unfold Instr.indexAt
  simp only [asIntOf,bind,Sem.bind,pure]
  refine AF (x:=underlying t) _ (Dh ht ?_)
  simp only [Sem.bind]
  refine AF (x:=underlying t) _ (Dh ht ?_)
  simp only [Sem.bind,h,and_self,if_true]
  refine AF (x:=Go.sizeOf e) _ (EG O ?_)
  exact⟨rfl,rfl⟩)
theorem Pc{a:Addr}{l K:Nat}(ht:P.underlying t=some (.array l e))(O:Bs P e=some K)(U:ρ x= .pointer (some a))(V:ρ y= .int kd m)(h:0≤m∧m<l):
  Yl P ⟨d,.indexAddr t x y,ty,p,af,g⟩ ρ s (.pointer (some (a.add (m.toNat*K)))):=
 FE (sm:=Instr.indexAt t (ρ x) (ρ y)) rfl (by
  rw [U,V];unfold Instr.indexAt
  simp only [asIntOf,bind,Sem.bind,pure]
  refine AF (x:=underlying t) _ (Dh ht ?_)
  simp only [Sem.bind,Instr.sureAddr,pure]
  refine AF (x:=underlying t) _ (Dh ht ?_)
  simp only [Sem.bind,h,and_self,if_true]
  refine AF (x:=Go.sizeOf e) _ (EG O ?_)
  exact⟨rfl,rfl⟩)
end
section
variable {P:Program}{J:Judge P}{Q:Gs_}{b:Frame}{n:Nat}{L L':Env}{ds:Ld_}{k:Li_}{cs:Lf_}{E H:LH}{B B':List (Nat×Obj)}
variable {ops:Ao_}{i:Nat}{rest:List Nat}{d:Option Tmp}{x y:Operand}{t u ty e:TypeId}{p:String}{af:Ae_}{g:On_}{v:Value}
theorem G1{cells:Ay}{Q:Addr→St→Prop}{X:Halt→St→Prop}(K:Nd E H B)(k:∀r,Nd E H (B++ [(r,.cells cells e (0,0))])→Q ⟨r,0,none⟩ (mk E H (B++ [(r,.cells cells e (0,0))]))):lp P (newRow e cells) (mk E H B) Q X:=by
 simp only [newRow,newObj,bind,Sem.bind,lp,pure];refine⟨rfl,fun r O U=>?_⟩;obtain⟨V,W⟩:=IT O U (.cells cells e (0,0)) K;rw [W];exact k r V
theorem JL.alloc{z:Value}(K:ops[i]? =some ⟨d,.alloc e,ty,p,af,g⟩)(hw:A8 L ops ⟨d,.alloc e,ty,p,af,g⟩=some true)(O:CL b n ⟨d,.alloc e,ty,p,af,g⟩=true)(U:Nd E H B)(V:zeroOf P e=some z)
  (h:∀r,Nd E H (B++ [(r,.cells z.cells e (0,0))])→JL J Q b n (AB L d (.pointer (some ⟨r,0,none⟩))) ds (.inRegion ops rest::k) cs (mk E H (B++ [(r,.cells z.cells e (0,0))]))):
  JL J Q b n L ds (.inRegion ops (i::rest)::k) cs (mk E H B):=
 JL.op K hw O fun ρ _=>by
  show lp P (do pure (Next.value (← Instr.alloc e true (.tuple #[])))) _ _ _
  refine AF _ _ ?_
  unfold Instr.alloc
  refine AF _ _ (FU V ?_)
  refine AF _ _ (G1 U fun r W=>?_)
  exact h r W
theorem JL.box(K:ops[i]? =some ⟨d,.box e x,ty,p,af,g⟩)(hw:A8 L ops ⟨d,.box e x,ty,p,af,g⟩=some true)(O:CL b n ⟨d,.box e x,ty,p,af,g⟩=true)(U:Nd E H B)(V:ev L x=some v)
  (h:∀r,Nd E H (B++ [(r,.cells v.cells e (0,0))])→JL J Q b n (AB L d (.pointer (some ⟨r,0,none⟩))) ds (.inRegion ops rest::k) cs (mk E H (B++ [(r,.cells v.cells e (0,0))]))):
  JL J Q b n L ds (.inRegion ops (i::rest)::k) cs (mk E H B):=
 JL.op K hw O fun ρ W=>by
  show lp P (do pure (Next.value (← Instr.box e (ρ x)))) _ _ _
  rw [W x v V]
  refine AF _ _ ?_
  unfold Instr.box
  refine AF _ _ (G1 U fun r Y=>?_)
  exact h r Y
def Ba(c:Ay)(off:Nat):Lv_→Ay
 | []=>c
 | v::vs=>Ba (c.setIfInBounds off v) (off+1) vs
theorem M1(c:Ay)(off:Nat)(vs:Lv_):(Ba c off vs).size=c.size:=by
 induction vs generalizing c off with
 | nil=>rfl
 | cons v vs K=>simp [Ba,K]
theorem MR{bk:Nat}{Q:Unit→St→Prop}{X:Halt→St→Prop}{pl off:Nat}{sp:Option Nat}:∀(vs:Lv_) (j:Nat) (c:Ay) (B:List (Nat×Obj)),(∀v∈vs,CK v=true)→Nd E H B→B[pl]? =some (bk,.cells c e (0,0))→off+j+vs.length≤c.size→(sp=none∨0<j)→
  (∀B',B'=B.set pl (bk,.cells (Ba c (off+j) vs) e (0,0))→Nd E H B'→Q () (mk E H B'))→lp P (storeCells ⟨bk,off,sp⟩ vs j) (mk E H B) Q X
 | [],j,c,B,_,O,K,_,_,k=>by
  simp only [storeCells,lp,pure]
  refine k B ?_ O
  simp only [Ba]
  exact(List.ext_getElem? fun i=>by
   by_cases hi:pl=i
   ·subst hi
    obtain⟨W,Y⟩:=List.getElem?_eq_some_iff.1 K
    simp [W,Y]
   ·simp [hi])
 | v::vs,j,c,B,U,O,K,hle,V,k=>by
  simp only [storeCells,List.length_cons] at*
  have Z:off+j<c.size:=by omega
  have aa:(Addr.add ⟨bk,off,sp⟩ j)=⟨bk,off+j,none⟩:=by
   unfold Addr.add;split
   ·rename_i ab;subst ab;rcases V with rfl | V
    ·rfl
    ·omega
   ·rfl
  have ae:(cellAt (.cells c e (0,0)) ⟨bk,off+j,none⟩).isSome=true:=by simp [cellAt,Z]
  refine AF (x:=store (Addr.add ⟨bk,off,sp⟩ j) v) _ ?_;rw [aa];refine⟨rfl,U v (by simp),_,HQ O K,ae,by simp [frozenAt],?_⟩;simp only [lp];have ah:IB (.cells c e (0,0)) ⟨bk,off+j,none⟩ v= .cells (c.setIfInBounds (off+j) v) e (0,0):=by simp [IB]
  rw [ah,Wv O K];have ai:(B.set pl (bk,.cells (c.setIfInBounds (off+j) v) e (0,0)))[pl]? =some (bk,.cells (c.setIfInBounds (off+j) v) e (0,0)):=by
   have:pl<B.length:=(List.getElem?_eq_some_iff.1 K).1;simp [this]
  refine MR vs (j+1) _ _ (fun u hu=>U u (List.mem_cons_of_mem _ hu)) (O.set K) ai (by simp;omega) (.inr (by omega)) fun aj e2 ak=>k aj ?_ ak;rw [e2,List.set_set];simp only [Ba]
  rfl
theorem OD{bk off pl:Nat}{c:Ay}{Q:Unit→St→Prop}{X:Halt→St→Prop}(K:Bs P t=some v.cells.size)(O:∀u∈v.cells.toList,CK u=true)(U:Nd E H B)(V:B[pl]? =some (bk,.cells c e (0,0)))(hle:off+v.cells.size≤c.size)
  (k:Nd E H (B.set pl (bk,.cells (Ba c off v.cells.toList) e (0,0)))→Q () (mk E H (B.set pl (bk,.cells (Ba c off v.cells.toList) e (0,0))))):lp P (storeVar t ⟨bk,off,none⟩ v) (mk E H B) Q X:=by
 unfold storeVar;refine AF _ _ (EG K ?_);simp only [ne_eq,not_true_eq_false,if_false];refine MR v.cells.toList 0 c B O U V (by simpa using hle) (.inl rfl) fun B' e W=>?_;subst e;exact k W
theorem JL.store{bk off:Nat}{c:Ay}(pl:Nat)(O:ops[i]? =some ⟨d,.store t x y,ty,p,af,g⟩)(hw:A8 L ops ⟨d,.store t x y,ty,p,af,g⟩=some true)(U:CL b n ⟨d,.store t x y,ty,p,af,g⟩=true)(V:Nd E H B)
  (W:ev L x=some (.pointer (some ⟨bk,off,none⟩))) (Y:ev L y=some v) (Z:Bs P t=some v.cells.size) (aa:∀u∈v.cells.toList,CK u=true) (ab:B[pl]? =some (bk,.cells c e (0,0))) (hle:off+v.cells.size≤c.size)
  (h:Nd E H (B.set pl (bk,.cells (Ba c off v.cells.toList) e (0,0)))→JL J Q b n (AB L d undef) ds (.inRegion ops rest::k) cs (mk E H (B.set pl (bk,.cells (Ba c off v.cells.toList) e (0,0))))):
  JL J Q b n L ds (.inRegion ops (i::rest)::k) cs (mk E H B):=
 JL.op O hw U fun ρ K=>by
  show lp P (do Instr.storeAt t (ρ x) (ρ y);pure Next.skip) _ _ _
  rw [K x _ W,K y _ Y]
  refine AF _ _ ?_
  unfold Instr.storeAt
  simp only [Instr.sureAddr,bind,Sem.bind,pure]
  exact OD Z aa V ab hle fun ae=>h ae
end
end Pal
namespace Pal
open Go Go.Conc
def Ed(P:Program)(t:TypeId):Option Nat:=(P.info? t).map (·.bytes)
section
variable {P:Program}{J:Judge P}{Q:Gs_}{b:Frame}{n:Nat}{L L':Env}{ds:Ld_}{k:Li_}{cs:Lf_}{E H:LH}{B B':List (Nat×Obj)}{s:St}
variable {ops:Ao_}{i:Nat}{rest:List Nat}{d:Option Tmp}{x y:Operand}{t u ty e:TypeId}{p:String}{af:Ae_}{g:On_}{v:Value}
theorem HJ{inf:TypeInfo}{Q:TypeInfo→St→Prop}{X:Halt→St→Prop}(h:P.info? t=some inf)(k:Q inf s):lp P (typeInfo t) s Q X:=by
 simp only [typeInfo,bind,Sem.bind,program,lp,h];exact k
theorem Lj{K:Nat}(h:Ed P t=some K):∃inf,P.info? t=some inf∧inf.bytes=K:=by
 unfold Ed at h;cases hi:P.info? t with
 | none=>rw [hi] at h;cases h
 | some i=>rw [hi] at h;simp at h;exact⟨i,rfl,h⟩
theorem Ho{β:Type}{z y:Nat}{code:BoundsCode}{f:Nat→Sem β}{K:β→St→Prop}{X:Halt→St→Prop}(V:z≤y)(O:lp P (f z) s K X):lp P (Instr.sliceBound (.int .i64 z) y code>>=f) s K X:=by
 refine AF _ _ ?_;unfold Instr.sliceBound;have U:(0:Int)≤(z:Int)∧(z:Int)≤(y:Int):=⟨by omega,by omega⟩;simp only [asIntOf,bind,Sem.bind,pure];rw [if_pos U];simpa [lp] using O
theorem GY{α β:Type}(a:α)(f:α→Sem β):((pure a:Sem α)>>=f)=f a:=rfl
theorem Xc{l c:Nat}{X:Halt→St→Prop}:lp P (Instr.sliceBounds true l c none none none) s (fun r s'=>r=(0,l,c)∧s'=s) X:=by
 unfold Instr.sliceBounds;exact⟨rfl,rfl⟩
theorem WW{l c:Nat}{lo:Nat}(K:lo≤l){X:Halt→St→Prop}:lp P (Instr.sliceBounds true l c (some (.int .i64 lo)) none none) s (fun r s'=>r=(lo,l,c)∧s'=s) X:=by
 simp only [Instr.sliceBounds,if_true,Option.isSome_none,Option.isSome_some,Bool.false_eq_true,if_false,GY];exact Ho K ⟨rfl,rfl⟩
theorem WR{l c:Nat}{hi:Nat}(hh:hi≤c){X:Halt→St→Prop}:lp P (Instr.sliceBounds true l c none (some (.int .i64 hi)) none) s (fun r s'=>r=(0,hi,c)∧s'=s) X:=by
 simp only [Instr.sliceBounds,if_true,Option.isSome_none,Option.isSome_some,Bool.false_eq_true,if_false,GY];exact Ho hh ⟨rfl,rfl⟩
theorem W6{l c:Nat}{lo hi:Nat}(hh:hi≤c)(K:lo≤hi){X:Halt→St→Prop}:lp P (Instr.sliceBounds true l c (some (.int .i64 lo)) (some (.int .i64 hi)) none) s (fun r s'=>r=(lo,hi,c)∧s'=s) X:=by
 have e:Instr.sliceBounds true l c (some (.int .i64 lo)) (some (.int .i64 hi)) none=(Instr.sliceBound (.int .i64 hi) c .sliceAcap>>=fun h=>Instr.sliceBound (.int .i64 lo) h .sliceB>>=fun l=>pure (l,h,c)):=by
  simp [Instr.sliceBounds]
 rw [e];exact Ho hh (Ho K ⟨rfl,rfl⟩)
theorem Xe{l c:Nat}{hi mx:Nat}(hm:mx≤c)(hh:hi≤mx){X:Halt→St→Prop}:lp P (Instr.sliceBounds true l c none (some (.int .i64 hi)) (some (.int .i64 mx))) s (fun r s'=>r=(0,hi,mx)∧s'=s) X:=by
 simp only [Instr.sliceBounds,if_true,Option.isSome_none,Option.isSome_some,Bool.false_eq_true,if_false,GY];exact Ho hm (Ho hh ⟨rfl,rfl⟩)
theorem WT{l c:Nat}{lo hi mx:Nat}(hm:mx≤c)(hh:hi≤mx)(K:lo≤hi){X:Halt→St→Prop}:lp P (Instr.sliceBounds true l c (some (.int .i64 lo)) (some (.int .i64 hi)) (some (.int .i64 mx))) s (fun r s'=>r=(lo,hi,mx)∧s'=s) X:=by
 simp only [Instr.sliceBounds,if_true,Option.isSome_none,Option.isSome_some,Bool.false_eq_true,if_false,GY];exact Ho hm (Ho hh (Ho K ⟨rfl,rfl⟩))
theorem Tf{l c lo hi mx:Nat}{V W Y:Option Value}{X:Halt→St→Prop}
  (O:match Y with | some w=>w= .int .i64 mx | none=>mx=c) (K:match W with | some w=>w= .int .i64 hi | none=>hi=l∧Y=none) (U:match V with | some w=>w= .int .i64 lo | none=>lo=0) (hm:mx≤c) (hh:hi≤mx) (Z:lo≤hi):
  lp P (Instr.sliceBounds true l c V W Y) s (fun r s'=>r=(lo,hi,mx)∧s'=s) X:=by
 cases Y with
 | none=>
  cases W with
  | none=>
   cases V with
   | none=>obtain rfl:mx=c:=O;obtain rfl:hi=l:=K.1;obtain rfl:lo=0:=U;exact Xc
   | some w=>obtain rfl:mx=c:=O;obtain rfl:hi=l:=K.1;obtain rfl:w= .int .i64 lo:=U;exact WW Z
  | some w=>
   cases V with
   | none=>obtain rfl:mx=c:=O;obtain rfl:w= .int .i64 hi:=K;obtain rfl:lo=0:=U;exact WR hh
   | some w'=>obtain rfl:mx=c:=O;obtain rfl:w= .int .i64 hi:=K;obtain rfl:w'= .int .i64 lo:=U;exact W6 hh Z
 | some w0=>
  cases W with
  | none=>exact absurd K.2 (fun h=>by cases h)
  | some w=>
   cases V with
   | none=>obtain rfl:w0= .int .i64 mx:=O;obtain rfl:w= .int .i64 hi:=K;obtain rfl:lo=0:=U;exact Xe hm hh
   | some w'=>obtain rfl:w0= .int .i64 mx:=O;obtain rfl:w= .int .i64 hi:=K;obtain rfl:w'= .int .i64 lo:=U;exact WT hm hh Z
theorem Ty{a:Option Addr}{l c O lo hi mx:Nat}{U V K:Option Value}{Q:Value→St→Prop}{X:Halt→St→Prop}(ht:P.underlying t=some (.slice e))(W:Bs P e=some O)
  (Y:match K with | some w=>w= .int .i64 mx | none=>mx=c) (Z:match V with | some w=>w= .int .i64 hi | none=>hi=l∧K=none) (aa:match U with | some w=>w= .int .i64 lo | none=>lo=0) (hm:mx≤c) (hh:hi≤mx) (ab:lo≤hi)
  (k:Q (.slice (if mx=lo then a else a.map (·.add (lo*O))) (hi - lo) (mx - lo)) s):lp P (Instr.slice t (.slice a l c) U V K) s Q X:=by
 unfold Instr.slice;refine AF _ _ (Dh ht ?_);have hb:=Tf (P:=P) (s:=s) (X:=X) Y Z aa hm hh ab;refine AF _ _ (Di _ hb ?_ (fun _ _ h=>h));rintro r s' ⟨rfl,rfl⟩;exact AF _ _ (EG W k)
theorem Yl.slice{ρ:Operand→Value}{a:Option Addr}{l c O lo hi mx:Nat}{olo ohi omx:Option Operand}(ht:P.underlying t=some (.slice e))(U:Bs P e=some O)(V:ρ x= .slice a l c)
  (W:match omx with | some w=>ρ w= .int .i64 mx | none=>mx=c) (K:match ohi with | some w=>ρ w= .int .i64 hi | none=>hi=l∧omx=none) (Y:match olo with | some w=>ρ w= .int .i64 lo | none=>lo=0) (hm:mx≤c) (hh:hi≤mx) (Z:lo≤hi):
  Yl P ⟨d,.slice t x olo ohi omx,ty,p,af,g⟩ ρ s (.slice (if mx=lo then a else a.map (·.add (lo*O))) (hi - lo) (mx - lo)):=
 FE (sm:=Instr.sliceAt t (ρ x) (olo.map ρ) (ohi.map ρ) (omx.map ρ)) rfl (by
  rw [V];unfold Instr.sliceAt
  refine AF _ _ (Dh ht ?_)
  refine Ty ht U (mx:=mx) (hi:=hi) (lo:=lo) ?_ ?_ ?_ hm hh Z ⟨rfl,rfl⟩
  ·cases omx <;> exact W
  ·cases ohi with
   | none=>exact⟨K.1,by rw [K.2];rfl⟩
   | some w=>exact K
  ·cases olo <;> exact Y)
def Gh(s:St)(v:Value)(K:Nat)(xs:Lv_):Prop:=
 match v with
 | .slice (some a) l c=>(a.spot=none∨l=0)∧xs.length=l*K∧l≤c∧∀j w,xs[j]? =some w→s.cell? ⟨a.block,a.off+j,none⟩=some w
 | .slice none l _=>l=0∧xs= []
 | _=>False
theorem DT{a:Addr}(h:a.spot=none)(j:Nat):a.add j=⟨a.block,a.off+j,none⟩:=by
 unfold Addr.add;obtain⟨b,o,sp⟩:=a;simp only at h;subst h;split
 ·rename_i e;subst e;rfl
 ·rfl
theorem IJ{V l:Nat}{xs:Lv_}{Q:Ay→St→Prop}{X:Halt→St→Prop}(W:∃a c,v= .slice a l c)(h:Gh s v V xs)(k:Q xs.toArray s):lp P (Builtin.firstCells V l v) s Q X:=by
 obtain⟨a,c,rfl⟩:=W;cases a with
 | none=>
  obtain⟨K,rfl⟩:=h;exact k
 | some a=>
  obtain⟨K,O,Z,Y⟩:=h;refine Ov O.symm (fun j w U=>?_) k;rcases K with K | K
  ·rw [DT K];exact Y j w U
  ·rw [K,Nat.zero_mul] at O;rw [List.eq_nil_of_length_eq_zero O] at U;cases U
theorem SL(nl:Nat):∀(r c:Nat),Builtin.growBy nl r c≤max c (2*nl+768):=by
 intro r
 induction r with
 | zero=>intro c;simp [Builtin.growBy];omega
 | succ r K=>
  intro c;simp only [Builtin.growBy];split
  ·omega
  ·rename_i h;have:=K (c+(c+768) / 4);omega
theorem OP{need old:Nat}(h:old<need):Builtin.nextslicecap need old≤2*need+768:=by
 unfold Builtin.nextslicecap;split
 ·omega
 ·split
  ·omega
  ·have:=SL need 4 old;omega
theorem Oo(z:Ay)(m:Nat):(Builtin.zeroCells z m).size=m*z.size:=by simp [Builtin.zeroCells]
def Ms(B:List (Nat×Obj))(pl:Nat)(e:TypeId)(K:Nat)(a:Option Addr)(l c:Nat)(xs:Lv_):Prop:=
 (a=none∧l=0∧c=0∧xs= [])∨∃bk f,a=some ⟨bk,0,none⟩∧B[pl]? =some (bk,.cells f e (0,0))∧f.size=c*K∧l≤c∧xs=f.toList.take (l*K)
theorem Ou(c:Ay)(off:Nat)(vs:Lv_)(h:off+vs.length≤c.size):(Ba c off vs).toList.take (off+vs.length)=c.toList.take off++vs:=by
 induction vs generalizing c off with
 | nil=>simp [Ba]
 | cons v vs O=>
  simp only [Ba,List.length_cons] at*;have:=O (c.setIfInBounds off v) (off+1) (by simp;omega);rw [show off+(vs.length+1)=off+1+vs.length from by omega,this];have K:off<c.toList.length:=by simp;omega
  rw [Array.toList_setIfInBounds,List.take_add_one];have U:(c.toList.set off v)[off]? =some v:=by simp at K;simp [K]
  rw [U];simp [List.take_set_of_le]
theorem M8{ats:Array TypeId}{a:Option Addr}{l c K V m cx:Nat}{ax:Option Addr}{xs ys:Lv_}{z:Value}{Q:Value→St→Prop}{X:Halt→St→Prop}{pl:Nat}
  (au:ats[0]? =some t) {t1 av:TypeId} (aw:ats[1]? =some t1) (ay:P.underlying t1=some (.slice av)) (ht:P.underlying t=some (.slice e)) (az:Bs P e=some K) (hb:Ed P e=some V) (aA:zeroOf P e=some z) (aB:z.cells.size=K)
  (ah:Nd E H B) (hs:Ms B pl e K a l c xs)
  (ab:Gh (mk E H B) (.slice ax m cx) K ys) (aC:∀w∈ys,CK w=true) (aN:0<V) (aO:l+m≤2 ^ 40) (aD:V≤64)
  (aE:∀bk f O,a=some ⟨bk,0,none⟩→B[pl]? =some (bk,.cells f e (0,0))→O=Ba f (l*K) ys→l+m≤c→O.size=c*K→O.toList.take ((l+m)*K)=xs++ys→Nd E H (B.set pl (bk,.cells O e (0,0)))→Q (.slice a (l+m) c) (mk E H (B.set pl (bk,.cells O e (0,0)))))
  (aF:a=none→m=0→Q (.slice none 0 0) (mk E H B))
  (aG:∀r O W,l+m≤W→O.size=W*K→O.toList.take ((l+m)*K)=xs++ys→Nd E H (B++ [(r,.cells O e (0,0))])→Q (.slice (some ⟨r,0,none⟩) (l+m) W) (mk E H (B++ [(r,.cells O e (0,0))]))):
  lp P (Builtin.append_ ats ty #[.slice a l c,.slice ax m cx]) (mk E H B) Q X:=by
 unfold Builtin.append_;simp only [au,aw,List.getElem?_toArray,List.getElem?_cons_zero,List.getElem?_cons_succ];refine AF _ _ (Dh ht ?_);refine AF _ _ (EG az ?_);refine AF _ _ (Dh ay ?_);simp only [GY,Bool.false_eq_true,if_false,Builtin.lenOf,Bool.not_false,if_true];have Y:ys.length=m*K:=by
  cases ax with
  | none=>obtain⟨ai,aj⟩:=ab;subst ai aj;simp
  | some ad=>exact ab.2.1
 have ak:∃(aH:Option Addr) (W:Nat),Gh (mk E H B) (.slice a l c) K xs∧aH=a∧W=c:=by
  refine⟨a,c,?_,rfl,rfl⟩;rcases hs with⟨rfl,rfl,rfl,rfl⟩ | ⟨bk,f,rfl,Z,U,aa,rfl⟩
  ·exact⟨rfl,rfl⟩
  ·have hle:l*K≤f.size:=by rw [U];exact Nat.mul_le_mul_right _ aa
   refine⟨.inl rfl,by simp [Nat.min_eq_left hle],aa,fun j w ae=>?_⟩;refine Pq ah Z ?_;simp only [Nat.zero_add];rw [List.getElem?_take] at ae;split at ae
   ·simpa using ae
   ·cases ae
 obtain⟨_,_,ak,_,_⟩:=ak;have al:xs.length=l*K:=by
  rcases hs with⟨rfl,rfl,rfl,rfl⟩ | ⟨bk,f,rfl,Z,U,aa,rfl⟩
  ·simp
  ·have hle:l*K≤f.size:=by rw [U];exact Nat.mul_le_mul_right _ aa
   simp [Nat.min_eq_left hle]
 split
 ·rename_i aq;refine AF _ _ (IJ ⟨ax,cx,rfl⟩ ab ?_);rcases hs with⟨rfl,rfl,rfl,rfl⟩ | ⟨bk,f,rfl,Z,U,aa,rfl⟩
  ·obtain rfl:m=0:=by omega
   simp only;exact aF rfl rfl
  ·simp only;have hle:l*K+ys.length≤f.size:=by rw [Y,U,← Nat.add_mul];exact Nat.mul_le_mul_right _ aq
   have aI:(Addr.add ⟨bk,0,none⟩ (l*K))=⟨bk,l*K,none⟩:=by rw [DT rfl];simp
   rw [aI];refine AF _ _ (MR (pl:=pl) ys.toArray.toList 0 f B (by simpa using aC) ah Z (by simpa using hle) (.inl rfl) fun B' ar am=>?_);simp only [Nat.add_zero] at ar;subst ar;refine aE bk f _ rfl Z rfl aq (by rw [M1,U]) ?_ am;have:=Ou f (l*K) ys hle;rw [Y,← Nat.add_mul] at this;exact this
 ·rename_i aP;have ai:¬(((l+m:Nat):Int)>IntKind.i64.max∧(False∨V=0)):=by rintro⟨_,h | h⟩ <;> omega
  have aj:¬(Builtin.nextslicecap (l+m) c*V>2 ^ 48):=by
   have:=OP (need:=l+m) (old:=c) (by omega);have aQ:Builtin.nextslicecap (l+m) c*V≤(2*(l+m)+768)*64:=Nat.mul_le_mul this aD;omega
  obtain⟨inf,an,ao⟩:=Lj hb;refine AF _ _ (HJ an ?_);rw [ao,if_neg ai];refine AF _ _ (HJ an ?_);rw [ao,if_neg aj];refine AF _ _ ?_;simp only [choose,lp,Question.forced,Bool.false_eq_true,if_false];refine⟨rfl,fun aJ=>?_⟩;generalize aK:(Question.appendCap (l+m) c e).cut aJ=ap;have aL:l+m≤ap:=by rw [← aK];simp [Question.cut]
  refine AF _ _ (HJ an ?_);rw [ao];have aM:∀{α:Type} {f:Unit→Sem α} {Q:α→St→Prop},lp P (f ()) (mk E H B) Q X→lp P (askRoom (ap*V)>>=f) (mk E H B) Q X:=by
   intro α f Q U;refine AF _ _ ?_;unfold askRoom;split
   ·exact⟨.inl ⟨rfl,rfl⟩,U⟩
   ·exact U
  refine aM (AF _ _ (IJ ⟨a,c,rfl⟩ ak ?_));refine AF _ _ (IJ ⟨ax,cx,rfl⟩ ab ?_);refine AF _ _ (FU aA ?_);refine AF _ _ (G1 ah fun r am=>?_);refine aG r _ ap aL ?_ ?_ am
  ·simp only [Array.size_append,List.size_toArray,Oo,aB,al,Y];rw [← Nat.add_mul,← Nat.add_mul];congr 1;omega
  ·simp only [Array.toList_append];rw [List.take_append_of_le_length (by simp [al,Y,Nat.add_mul])];rw [List.take_of_length_le (by simp [al,Y,Nat.add_mul])]
end
end Pal
namespace Pal
open Go Go.Conc
theorem My{P:Program}{α:Type}(x:Sem α):∀{s:St} {Q:α→St→Prop} {X:Halt→St→Prop},lp P x s Q X→lp P x s (fun a s'=>Q a s'∧s'.E=s.E∧s'.q=s.q) X:=by
 induction x with
 | pure a=>intro s Q X h;exact⟨h,rfl,rfl⟩
 | load m a k K=>intro s Q X h;obtain⟨O,v,U,V⟩:=h;exact⟨O,v,U,K _ V⟩
 | store m a v k K=>intro s Q X h;obtain⟨O,U,o,V,Y,Z,aa⟩:=h;exact⟨O,U,o,V,Y,Z,K aa⟩
 | new o k K=>intro s Q X h;exact⟨h.1,fun r O U=>K _ (h.2 r O U)⟩
 | shape r k K=>intro s Q X h;obtain⟨o,O,U⟩:=h;exact⟨o,O,K _ U⟩
 | freeze a n k K=>intro s Q X h;exact h
 | frozen a k K=>intro s Q X h;obtain⟨o,O,U⟩:=h;exact⟨o,O,K _ U⟩
 | getObj r k K=>intro s Q X h;obtain⟨o,O,U,V⟩:=h;exact⟨o,O,U,K _ V⟩
 | setObj r o k K=>intro s Q X h;obtain⟨O,U,V⟩:=h;exact⟨O,U,K V⟩
 | choose q k K=>
  intro s Q X h;simp only [lp] at h ⊢;split
  ·rename_i W;rw [if_pos W] at h;exact K _ h
  ·rename_i W;rw [if_neg W] at h;exact⟨h.1,fun t=>K _ (h.2 t)⟩
 | sys c k K=>intro s Q X h;exact h
 | program k K=>intro s Q X h;exact K _ h
 | mark m k K=>intro s Q X h;exact⟨h.1,K h.2⟩
 | halt h=>intro s Q X h;exact h
def Bx(D:Nat→Bool)(s:St):St:=⟨fun b=>if D b then s.get b else s.E b,fun b=>if D b then none else s.H b,s.q⟩
def Cr(D:Nat→Bool)(s s':St):St:=⟨fun b=>if D b then s.E b else s'.E b,fun b=>if D b then s.H b else s'.H b,s'.q⟩
theorem JJ(D:Nat→Bool)(s:St):Cr D s (Bx D s)=s:=by
 obtain⟨E,H,q⟩:=s;unfold Cr Bx;congr 1
 ·funext b;by_cases h:D b <;> simp [h]
 ·funext b;by_cases h:D b <;> simp [h]
theorem TV{D:Nat→Bool}{s:St}{w:World}(f:Fits s w):Fits (Bx D s) w where
 e b o h:=by
  by_cases K:D b
  ·simp [Bx,K] at h;exact f.get h
  ·simp [Bx,K] at h;exact f.e b o h
 h b o h:=by
  by_cases K:D b
  ·simp [Bx,K] at h
  ·simp [Bx,K] at h;exact f.h b o h
 d b h:=by
  by_cases K:D b
  ·simp [Bx,K]
  ·simp [Bx,K] at h ⊢;exact f.d b h
def DN{P:Program}(J:Judge P)(f:FuncId)(args:Ay)(s:St)(R:Value→St→Prop):Prop:=
 ∀(Q:Gs_) (c:Frame) (cs:Lf_),(∀v s',R v s'→J.ok Q (G (c.finish v) cs) s')→J.ok Q (G (Frame.enter P f args .normal) (c::cs)) s
theorem DN.Ai{P:Program}{J:Judge P}{f:FuncId}{args:Ay}{s:St}{R K:Value→St→Prop}(h:DN J f args s R)(O:∀v s',R v s'→K v s'):DN J f args s K:=
 fun Q c cs U=>h Q c cs fun v s' V=>U v s' (O v s' V)
section
variable {P:Program}{J:Judge P}{Q:Gs_}{b:Frame}{n:Nat}{L L':Env}{ds:Ld_}{k:Li_}{cs:Lf_}{s s':St}
theorem Judge.PY(D:Nat→Bool){T:Ay}{ops:Ao_}{i:Nat}{rest:List Nat}{o:Oper}(V:ops[i]? =some o)(hw:Region.wanted o (yielded ops T)=true)(aq:b.kind≠ .early)
  (ar:∀c,o.op≠ .defer c) (au:s.q=false)
  (h:lp P (execOp (BB T) o) (Bx D s) (fun nx s'=>upon J Q b T ds ops i rest k cs o.dst nx (Cr D s s')) (fun _ _=>False)):
  J.ok Q (G (fr b T ds (.inRegion ops (i::rest)::k)) cs) s:=by
 refine J.step ⟨rfl,fun w f=>?_,fun e=>by subst e;cases au⟩;have W:((fr b T ds (.inRegion ops (i::rest)::k)).kind==CallKind.early)=false:=by simpa [fr] using aq
 have av:stepG P J.main (G (fr b T ds (.inRegion ops (i::rest)::k)) cs) w=stepG.apply P true (fr b T ds (.inRegion ops (i::rest)::k)) cs none (execOp (BB T) o) w:=by
  rw [stepG_op V hw];split
  ·rename_i l c aD e2;exact absurd e2 (ar c)
  ·rfl
 obtain⟨Y,ae,ah,aw,O⟩:=Lq _ (My _ h) (TV (D:=D) f);have ai:=No (P:=P) (fn:=b.fn) aw;have am:=fun v=>FW (b:=b) (ds:=ds) (k:=k) T ops i rest v o V;have key:∀w',Fits Y w'→Fr (Bx D s) w Y w'→Y.E=(Bx D s).E→Fits (Cr D s Y) w'∧Fr s w (Cr D s Y) w':=by
  intro w' aj g2 ay;have an:∀b,D b=true→b<w.heap.size→w'.heap[b]? =w.heap[b]? :=fun b hb ak=>g2.keep b ak (by simp [Bx,hb]);have ao:∀b o,(s.H b=some o∨s.E b=some o)→b<w.heap.size:=fun b o V=>by
   have:=V.elim (f.h b o) (f.e b o);rcases Nat.lt_or_ge b w.heap.size with al | al
   ·exact al
   ·simp [Array.getElem?_eq_none al] at this
  refine⟨⟨fun b o hb=>?_,fun b o hb=>?_,fun b hb=>?_⟩,⟨g2.size,fun b ak hb=>?_,fun b hb=>?_,fun b o hb=>?_,fun b hb=>?_,g2.tape,g2.os,g2.output⟩⟩
  ·by_cases K:D b
   ·simp [Cr,K] at hb;rw [an b K (ao b o (.inr hb))];exact f.e b o hb
   ·simp [Cr,K] at hb;exact aj.e b o hb
  ·by_cases K:D b
   ·simp [Cr,K] at hb;rw [an b K (ao b o (.inl hb))];exact f.h b o hb
   ·simp [Cr,K] at hb;exact aj.h b o hb
  ·by_cases K:D b
   ·simp [Cr,K] at hb ⊢;exact f.d b hb
   ·simp [Cr,K] at hb ⊢;exact aj.d b hb
  ·exact g2.keep b ak (by by_cases K:D b <;> simp [Bx,K,hb])
  ·by_cases K:D b
   ·simp [Cr,K] at hb;exact .inl hb
   ·simp [Cr,K] at hb;rcases g2.own b hb with q | q
    ·left;simpa [Bx,K] using q
    ·exact .inr q
  ·by_cases K:D b
   ·simp [Cr,K];exact hb
   ·simp only [Cr,K,Bool.false_eq_true,if_false];rw [ay];simp [Bx,K,hb]
  ·by_cases K:D b
   ·simp [Cr,K] at hb;exact .inl hb
   ·simp [Cr,K] at hb;rcases g2.Ec b hb with q | q | q
    ·left;simpa [Bx,K] using q
    ·right;left;simpa [Bx,K] using q
    ·exact .inr (.inr q)
 have az:∀w',(∀e∈seen P b.fn ((execOp (BB T) o).events P w #[]),Ev (Bx D s) w w' e)→∀e∈seen P b.fn ((execOp (BB T) o).events P w #[]),Ev s w w' e:=by
  intro w' he e hm;have:=he e hm;have tt:∀{b wr},FI (Bx D s) w w' b wr→FI s w w' b wr:=by
   intro b wr ht;refine⟨ht.1,?_⟩;rcases ht.2 with q | q | ⟨q,ap⟩
   ·left;by_cases K:D b <;> simp [Bx,K] at q;exact q
   ·exact .inr (.inl q)
   ·by_cases K:D b
    ·simp [Bx,K,St.get] at q;by_cases ab:s.E b=none
     ·left;intro aA;rw [ab,aA] at q;exact q rfl
     ·exact .inr (.inr ⟨ab,ap⟩)
    ·simp [Bx,K] at q;exact .inr (.inr ⟨q,ap⟩)
  unfold Ev at this ⊢;split <;> rename_i aB <;> simp only [aB] at this
  ·exact⟨this.1,tt this.2⟩
  ·exact⟨this.1,tt this.2⟩
  ·trivial
  ·trivial
 rw [av];cases U:(execOp (BB T) o).run P w with
 | ok nx w'=>
  rw [U] at ae ah O ai;simp only [IE] at ae ah ai;obtain⟨O,ab,_⟩:=O;obtain⟨k1,Z⟩:=key w' ae ah ab;have aa:=az w' ai;cases nx with
  | value v=>exact⟨_,_,w',seen P b.fn ((execOp (BB T) o).events P w #[])++ #[],by simp [stepG.apply,U,W,GStep.after,G,am,EL],O,k1,Z,by simpa using aa⟩
  | skip=>exact⟨_,_,w',seen P b.fn ((execOp (BB T) o).events P w #[])++ #[],by simp [stepG.apply,U,W,GStep.after,G,am,EL],O,k1,Z,by simpa using aa⟩
  | enter g args=>exact⟨_,_,w',seen P b.fn ((execOp (BB T) o).events P w #[])++ #[],by simp [stepG.apply,U,W,GStep.after,G,EL,GC],O,k1,Z,by simpa using aa⟩
  | round l g aE as aF=>exact⟨_,_,w',seen P b.fn ((execOp (BB T) o).events P w #[])++ #[],by simp [stepG.apply,U,W,GStep.after,G,EL,GC],O,k1,Z,by simpa using aa⟩
  | defer d=>
   have aC:=FW (b:=b) (ds:=d::ds) (k:=k) T ops i rest undef o V;exact⟨_,_,w',seen P b.fn ((execOp (BB T) o).events P w #[])++ #[],by
    rw [← aC];simp [stepG.apply,U,W,GStep.after,G,EL,GC];rfl,O,k1,Z,by simpa using aa⟩
  | _=>exact O.elim
 | halt x w'=>rw [U] at O;exact O.elim
end
end Pal
namespace Pal
open Go Go.Conc
def NT(m:Nat)(listed:Array Bool):Bool:=(List.range m).all fun i=>listed.getD i false
def A6(listed:Array Bool)(i:Nat):Array Bool:=listed.setIfInBounds i true
section
variable {P:Program}(J:Judge P)(Q:Gs_)(b:Frame)(ds:Ld_)(ops:Ao_)(k:Li_)(cs:Lf_)(m:Nat)(D:Nat→Bool)
def JA:Nat→Array Bool→Ay→St→Prop
 | 0,listed,T,s=>Region.ready .any ops listed= []∧J.ok Q (G (fr b T ds (.inRegion ops []::k)) cs) s
 | fuel+1,listed,T,s=>
  (NT m listed=true∧∀t,J.ok Q (G (fr b T ds (.inRegion ops (Region.linearise.go .any ops (fuel+1) t listed [])::k)) cs) s)∨
  (Region.ready .any ops listed≠ []∧s.q=false∧∀i∈Region.ready .any ops listed,∀o,ops[i]? =some o→(∀c,o.op≠ .defer c)∧
   (Region.wanted o (yielded ops T)=false→JA fuel (A6 listed i) (Cw T o.dst undef) s)∧
   (Region.wanted o (yielded ops T)=true→lp P (execOp (BB T) o) (Bx D s) (fun nx s'=>match nx with
    | .value v=>JA fuel (A6 listed i) (Cw T o.dst v) (Cr D s s')
    | .skip=>JA fuel (A6 listed i) (Cw T o.dst undef) (Cr D s s')
    | .enter f args=>∃R,DN J f args (Cr D s s') R∧∀v K,R v K→K.q=false∧(∀x o,(Bx D s).E x=some o→(Bx D K).E x=some o)∧JA fuel (A6 listed i) (Cw T o.dst v) K
    | _=>False) (fun _ _=>False)))
variable {J Q b ds ops k cs m D}
theorem TO(W:b.kind≠ .early):∀(fuel t:Nat) (listed:Array Bool) (T:Ay) (s:St),JA J Q b ds ops k cs m D fuel listed T s→
  J.ok Q (G (fr b T ds (.inRegion ops (Region.linearise.go .any ops fuel t listed [])::k)) cs) s:=by
 intro fuel
 induction fuel with
 | zero=>intro t listed T s h;simpa [Region.linearise.go] using h.2
 | succ fuel K=>
  intro t listed T s h;rcases h with⟨_,h⟩ | ⟨Y,Z,h⟩
  ·exact h t
  ·obtain⟨i,hi⟩:∃i,(Region.ready .any ops listed)[t % (Region.ready .any ops listed).length]? =some i:=by
    have:0<(Region.ready .any ops listed).length:=List.length_pos_iff.2 Y;exact⟨_,List.getElem?_eq_getElem (Nat.mod_lt _ this)⟩
   have V:=List.mem_of_getElem? hi;have hgo:Region.linearise.go .any ops (fuel+1) t listed []=i::Region.linearise.go .any ops fuel (t / (Region.ready .any ops listed).length) (A6 listed i) []:=by
    simp only [Region.linearise.go];change (match(Region.ready .any ops listed)[t % (Region.ready .any ops listed).length]? with
     | some i=>Region.linearise.go .any ops fuel (t / (Region.ready .any ops listed).length) (listed.setIfInBounds i true) [i]
     | none=> [].reverse)=_
    rw [hi];simp only;rw [linearise_go_acc];rfl
   rw [hgo];obtain⟨_,o,O,_⟩:=mem_ready.1 V;obtain⟨aa,ab,ae⟩:=h i V o O;cases hw:Region.wanted o (yielded ops T) with
   | false=>exact Judge.unwanted O hw (K _ _ _ _ (ab hw))
   | true=>
    refine Judge.PY D O hw W aa Z (Di _ (ae hw) ?_ (fun _ _ h=>h));intro nx s' U;cases nx with
    | value v=>exact K _ _ _ _ U
    | skip=>exact K _ _ _ _ U
    | enter f args=>
     obtain⟨R,ah,ai⟩:=U;refine ah Q _ cs fun v aj ak=>?_;rw [FW _ _ _ _ _ _ O];exact K _ _ _ _ (ai v aj ak).2.2
    | _=>exact U.elim
theorem UX{T:Ay}{d:Option Tmp}{v:Value}{x:Operand}(h:∀t,d=some t→x≠ .tmp t):BB (Cw T d v) x=BB T x:=by
 cases d with
 | none=>rfl
 | some t=>
  cases x with
  | tmp u=>
   have K:t≠u:=fun e=>h t rfl (e▸rfl);simp only [Cw,BB,Array.getD_eq_getD_getElem?,Array.getElem?_setIfInBounds_ne K]
  | _=>rfl
theorem Gz{T:Ay}{d:Option Tmp}{v:Value}{o:Oper}(hs:∀cs b,o.op≠ .select cs b)(h:∀t,d=some t→t ∉ o.looksAt ops):
  execOp (BB (Cw T d v)) o=execOp (BB T) o∧Region.wanted o (yielded ops (Cw T d v))=Region.wanted o (yielded ops T):=by
 refine⟨execOp_congr o hs fun x K=>UX fun t ht O=>h t ht ?_,?_⟩
 ·subst O;exact List.mem_append_left _ (List.mem_filterMap.2 ⟨.tmp t,by simpa using K,rfl⟩)
 ·have:=wanted_put (ops:=ops) o (⟨T,[]⟩:Act) d v h
  rwa [act_put'] at this
 where
  act_put' {T : Ay} {d : Option Tmp} {v : Value} : (⟨T, []⟩ : Act).put d v = ⟨Cw T d v, []⟩ := by cases d <;> rfl
theorem Hn{T:Ay}{d e:Option Tmp}{v u:Value}(h:∀t,d=some t→e≠some t):Cw (Cw T d v) e u=Cw (Cw T e u) d v:=by
 cases d with
 | none=>rfl
 | some t=>
  cases e with
  | none=>rfl
  | some K=>
   have O:t≠K:=fun q=>h t rfl (q▸rfl);simp [Cw,Array.setIfInBounds_comm _ _ O]
theorem OC{D:Nat→Bool}{s s':St}(K:s'.E=(Bx D s).E):(Bx D (Cr D s s')).E=(Bx D s).E:=by
 funext x;by_cases h:D x
 ·simp [Bx,Cr,h,St.get]
 ·have:=congrFun K x;simp [Bx,h] at this;simp [Bx,Cr,h,this]
def Ht(ops:Ao_)(listed:Array Bool)(i:Nat)(oi:Oper):Bool:=
 (List.range ops.size).all fun j=>j==i || listed.getD j true || match ops[j]? with
  | some K=>(K.after.any fun e=>Region.binds .any e&&e.on==i) || oi.apart ops K
  | none=>true
def waits(ops:Ao_):Nat→Nat→Nat→Bool
 | 0,_,_=>false
 | f+1,j,i=>match ops[j]? with
  | some K=>K.after.any fun e=>Region.binds .any e&&(e.on==i || waits ops f e.on i)
  | none=>true
def Dx(ops:Ao_)(m:Nat):Bool:=
 (List.range ops.size).all fun j=>decide (j<m) || (List.range m).all fun i=>waits ops ops.size j i
def GI(ops:Ao_)(listed:Array Bool):Bool:=
 (List.range ops.size).all fun j=> !listed.getD j false || match ops[j]? with
  | some K=>K.after.all fun e=> !Region.binds .any e || listed.getD e.on false
  | none=>true
theorem MW{listed:Array Bool}(h:GI ops listed=true){j:Nat}{K:Oper}(O:ops[j]? =some K)(U:listed.getD j false=true):∀e∈K.after,Region.binds .any e=true→listed.getD e.on false=true:=by
 intro e he hb;have:=List.all_eq_true.1 h j (List.mem_range.2 (Array.getElem?_eq_some_iff.1 O).1);rw [U,O] at this;simp only [Bool.not_true,Bool.false_or] at this;have:=Array.all_eq_true'.1 this e he;rw [hb] at this;simpa using this
theorem Oz{listed:Array Bool}(W:GI ops listed=true){i:Nat}:∀(f j:Nat) (O:Oper),ops[j]? =some O→(∀e∈O.after,Region.binds .any e=true→listed.getD e.on false=true)→waits ops f j i=true→listed.getD i false=true∨∃x,ops[x]? =none∧listed.getD x false=true:=by
 intro f
 induction f with
 | zero=>intro j O _ _ h;cases h
 | succ f Y=>
  intro j O Z aa h;simp only [waits,Z] at h;obtain⟨e,he,K⟩:=Array.any_eq_true'.1 h;simp only [Bool.and_eq_true,Bool.or_eq_true,beq_iff_eq] at K;obtain⟨hb,K⟩:=K;have U:=aa e he hb;rcases K with rfl | K
  ·exact .inl U
  ·cases V:ops[e.on]? with
   | none=>exact .inr ⟨_,V,U⟩
   | some o=>exact Y e.on o V (fun ab ae ah=>MW W V U ab ae ah) K
theorem JA.take{i:Nat}{oi:Oper}{w:Bool}{v:Value}(hi:ops[i]? =some oi)(aS:i<m)(aT:Dx ops m=true)(aU:Region.noSelect ops=true)(aV:∀c,oi.op≠ .defer c):
  ∀(fuel:Nat) (listed:Array Bool) (T:Ay) (s:St),Ht ops listed i oi=true→GI ops listed=true→listed.size=ops.size→i∈Region.ready .any ops listed→s.q=false→Region.wanted oi (yielded ops T)=w→
   (w=true→∀s',s'.q=false→(∀x o,(Bx D s).E x=some o→s'.E x=some o)→Yl P oi (BB T) s' v)→
   JA J Q b ds ops k cs m D fuel (A6 listed i) (Cw T oi.dst (if w then v else undef)) s→JA J Q b ds ops k cs m D (fuel+1) listed T s:=by
 have ae:∀(j:Nat) (W:Oper),ops[j]? =some W→∀cs b,W.op≠Op.select cs b:=fun j W h cs b=>Region.noSelect_spec aU j W cs b h;intro fuel
 induction fuel with
 | zero=>?_
 | succ fuel al=>?_
 all_goals
  intro listed T s aG aH ah am an hw ai h;refine .inr ⟨fun e=>(by rw [e] at am;cases am),an,fun j aI W O=>?_⟩;by_cases ab:j=i
  ·subst ab;obtain rfl:W=oi:=by rw [hi] at O;exact(Option.some.inj O).symm
   refine⟨aV,fun ay=>?_,fun az=>?_⟩
   ·rw [ay] at hw;subst hw;exact h
   ·rw [az] at hw;subst hw;refine Di _ (ai rfl (Bx D s) an fun _ _ h=>h).out ?_ (fun _ _ h=>h);rintro nx s' ⟨rfl,rfl⟩;rw [JJ];exact h
  ·
   have aJ:j∈Region.ready .any ops (A6 listed i):=ready_mono aI ab;obtain⟨Y,U,aK,aA⟩:=mem_ready.1 aI;obtain rfl:U=W:=by rw [O] at aK;exact(Option.some.inj aK).symm
   have aB:=(mem_ready.1 am).1;have aW:(U.after.any fun e=>Region.binds .any e&&e.on==i)=false:=by
    rw [Array.any_eq_false];intro e he K;simp only [Bool.and_eq_true,beq_iff_eq] at K;have:=aA _ (Array.getElem_mem he) K.1;rw [K.2] at this;have V:listed.getD i true=listed.getD i false∨listed.size≤i:=by
     rcases Nat.lt_or_ge i listed.size with q | q
     ·left;simp [Array.getD_eq_getD_getElem?,q]
     ·exact .inr q
    rcases V with V | V
    ·rw [aB,this] at V;cases V
    ·rw [Array.getD_eq_getD_getElem?,Array.getElem?_eq_none V] at this;simp at this
   have aX:oi.apart ops U=true:=by
    have aj:j<ops.size:=(Array.getElem?_eq_some_iff.1 O).1;have:=List.all_eq_true.1 aG j (List.mem_range.2 aj);simp only [Bool.or_eq_true,beq_iff_eq] at this;rcases this with(q | q) | q
    ·exact absurd q ab
    ·rw [Y] at q;cases q
    ·rw [O] at q;simp only [Bool.or_eq_true] at q;rw [aW] at q;exact q.resolve_left (by simp)
   obtain⟨aY,ao,ap⟩:=Oper.apart_spec aX;obtain⟨p1,p2⟩:=Gz (ops:=ops) (T:=T) (v:=if w then v else undef) (ae j U O) aY
   first
    | exact absurd aJ (by rw [h.1];simp)
    | (
     rcases h with⟨aZ,_⟩ | ⟨bc,_,h⟩
     ·
      exfalso
      have a0:¬j<m:=by
       intro aj
       have:=List.all_eq_true.1 aZ j (List.mem_range.2 aj)
       have e2:(A6 listed i).getD j false=listed.getD j false:=getD_set_ne false (Ne.symm ab)
       rw [e2] at this
       have V:listed.getD j true=true:=by
        rcases Nat.lt_or_ge j listed.size with q | q
        ·simp [Array.getD_eq_getD_getElem?,q] at this ⊢;exact this
        ·simp [Array.getD_eq_getD_getElem?,Array.getElem?_eq_none q] at this
       rw [Y] at V;cases V
      have aj:j<ops.size:=(Array.getElem?_eq_some_iff.1 O).1
      have:=List.all_eq_true.1 aT j (List.mem_range.2 aj)
      simp only [Bool.or_eq_true,decide_eq_true_eq] at this
      have:=List.all_eq_true.1 (this.resolve_left a0) i (List.mem_range.2 aS)
      rcases Oz aH _ j U O (fun e he hb=>aA e he hb) this with q | ⟨x,q1,q2⟩
      ·have a1:i<listed.size:=by rw [ah];exact(Array.getElem?_eq_some_iff.1 hi).1
       simp [Array.getD_eq_getD_getElem?,a1] at q aB
       rw [aB] at q;cases q
      ·have:¬x<listed.size:=by rw [ah];intro K;simp [K] at q1
       simp [Array.getD_eq_getD_getElem?,this] at q2
     ·obtain⟨a2,ay,az⟩:=h j aJ U O
      have aq:A6 (A6 listed i) j=A6 (A6 listed j) i:=by
       unfold A6;exact Array.setIfInBounds_comm _ _ (Ne.symm ab)
      have ar:i∈Region.ready .any ops (A6 listed j):=ready_mono am (Ne.symm ab)
      have au:Ht ops (A6 listed j) i oi=true:=by
       refine List.all_eq_true.2 fun x K=>?_
       have:=List.all_eq_true.1 aG x K
       simp only [Bool.or_eq_true,beq_iff_eq] at this ⊢
       rcases this with(q | q) | q
       ·exact .inl (.inl q)
       ·left;right
        by_cases e:j=x
        ·subst e;rw [Y] at q;cases q
        ·rw [A6,getD_set_ne true e];exact q
       ·exact .inr q
      have av:(A6 listed j).size=ops.size:=by unfold A6;simpa using ah
      have aw:GI ops (A6 listed j)=true:=by
       refine List.all_eq_true.2 fun x K=>?_
       cases aC:ops[x]? with
       | none=>simp
       | some a3=>
        simp only [Bool.or_eq_true,Bool.not_eq_true']
        by_cases e:j=x
        ·subst e
         obtain rfl:a3=U:=by rw [O] at aC;exact(Option.some.inj aC).symm
         right
         refine Array.all_eq_true'.2 fun e he=>?_
         cases hb:Region.binds .any e with
         | false=>simp
         | true=>
          have:=aA e he hb
          by_cases e2:j=e.on
          ·rw [← e2] at this
           have aD:j<listed.size:=by rw [ah];exact(Array.getElem?_eq_some_iff.1 O).1
           simp [Array.getD_eq_getD_getElem?,aD] at this Y
           rw [Y] at this;cases this
          ·rw [A6,getD_set_ne false e2];simpa using this
        ·cases aL:(A6 listed j).getD x false with
         | false=>exact .inl rfl
         | true=>
          right
          have a4:listed.getD x false=true:=by rw [A6,getD_set_ne false e] at aL;exact aL
          refine Array.all_eq_true'.2 fun aE he=>?_
          cases hb:Region.binds .any aE with
          | false=>simp
          | true=>
           have:=MW aH aC a4 aE he hb
           by_cases e2:j=aE.on
           ·rw [← e2] at this
            have aD:j<listed.size:=by rw [ah];exact(Array.getElem?_eq_some_iff.1 O).1
            simp [Array.getD_eq_getD_getElem?,aD] at this Y
            rw [Y] at this;cases this
           ·rw [A6,getD_set_ne false e2];simpa using this
      refine⟨a2,fun a5=>?_,fun a6=>?_⟩
      ·have:=ay (by rw [p2];exact a5)
       rw [aq,Hn ao] at this
       obtain⟨q1,q2⟩:=Gz (ops:=ops) (T:=T) (d:=U.dst) (v:=undef) (o:=oi) (ae i oi hi) ap
       exact al _ _ _ au aw av ar an (by rw [q2];exact hw) (fun Z s' a7 aF=>by unfold Yl;rw [q1];exact(ai Z s' a7 aF).out) this
      ·have aM:=My _ (az (by rw [p2];exact a6))
       rw [p1] at aM
       refine Di _ aM ?_ (fun _ _ h=>h)
       rintro nx s' ⟨K,aF,a8⟩
       have aN:=OC (D:=D) aF
       have aO:(Cr D s s').q=false:=by show s'.q=false;rw [a8];exact an
       cases nx with
       | value u=>
        simp only at K ⊢
        rw [aq,Hn ao] at K
        obtain⟨q1,q2⟩:=Gz (ops:=ops) (T:=T) (d:=U.dst) (v:=u) (o:=oi) (ae i oi hi) ap
        exact al _ _ _ au aw av ar aO (by rw [q2];exact hw) (fun Z s2 ak aa=>by unfold Yl;rw [q1];exact(ai Z s2 ak (by rw [aN] at aa;exact aa)).out) K
       | skip=>
        simp only at K ⊢
        rw [aq,Hn ao] at K
        obtain⟨q1,q2⟩:=Gz (ops:=ops) (T:=T) (d:=U.dst) (v:=undef) (o:=oi) (ae i oi hi) ap
        exact al _ _ _ au aw av ar aO (by rw [q2];exact hw) (fun Z s2 ak aa=>by unfold Yl;rw [q1];exact(ai Z s2 ak (by rw [aN] at aa;exact aa)).out) K
       | enter f args=>
        obtain⟨R,a9,ba⟩:=K
        refine⟨R,a9,fun u bb hu=>?_⟩
        obtain⟨aP,aQ,aR⟩:=ba u bb hu
        refine⟨aP,aQ,?_⟩
        rw [aq,Hn ao] at aR
        obtain⟨q1,q2⟩:=Gz (ops:=ops) (T:=T) (d:=U.dst) (v:=u) (o:=oi) (ae i oi hi) ap
        exact al _ _ _ au aw av ar aP (by rw [q2];exact hw) (fun Z s2 ak aa=>by unfold Yl;rw [q1];exact(ai Z s2 ak (fun x o K=>aa x o (aQ x o K))).out) aR
       | _=>exact K.elim)
end
end Pal
namespace Pal
open Go Go.Conc
section
variable {P:Program}(J:Judge P)(Q:Gs_)(b:Frame)(n:Nat)(ds:Ld_)(ops:Ao_)(k:Li_)(cs:Lf_)(m:Nat)(D:Nat→Bool)
def AQ(fuel:Nat)(listed:Array Bool)(L:Env)(s:St):Prop:=∀T,Has n L T→JA J Q b ds ops k cs m D fuel listed T s
end
def D3:Nat→Bool:=fun _=>false
section
variable {P:Program}{J:Judge P}{Q:Gs_}{b:Frame}{n:Nat}{ds:Ld_}{ops:Ao_}{k:Li_}{cs:Lf_}{m fuel:Nat}{D:Nat→Bool}{listed:Array Bool}{L:Env}{s:St}
theorem Pz(m:Nat)(D:Nat→Bool){id:Nat}(K:s.q=false)(hm:P.follows .mixedOrders=true)(O:(b.kind != .early)=true)(h:AQ J Q b n ds ops k cs m D ops.size (Array.replicate ops.size false) L s):JL J Q b n L ds (.code (.region id ops true)::k) cs s:=
 P6 K hm fun t T U=>TO (by simpa using O) ops.size t _ T s (h T U)
theorem Tc{i:Nat}{oi:Oper}{v:Value}(hi:ops[i]? =some oi)(U:decide (i<m)=true)(V:Dx ops m=true)(W:Region.noSelect ops=true)(O:(!Db oi.op)=true)(Y:Ht ops listed i oi=true)(Z:GI ops listed=true)(aa:(listed.size==ops.size)=true)(ab:(Region.ready .any ops listed).contains i=true)(ae:s.q=false)
  (hw:A8 L ops oi=some true) (ah:Bt n oi.dst=true) (ai:∀ρ,Ej L ρ→∀s',s'.q=false→(∀x o,(Bx D s).E x=some o→s'.E x=some o)→Yl P oi ρ s' v)
  (h:AQ J Q b n ds ops k cs m D fuel (A6 listed i) (AB L oi.dst v) s):AQ J Q b n ds ops k cs m D (fuel+1) listed L s:=fun T K=>by
 refine JA.take (w:=true) (v:=v) hi (by simpa using U) V W (fun c aj=>by rw [aj] at O;simp [Db] at O) fuel listed T s Y Z (by simpa using aa) (by simpa using ab) ae (CR K hw) (fun _ s' ak al=>ai _ K.F2 s' ak al) ?_
 exact h _ (K.put ah v)
theorem SR{i:Nat}{oi:Oper}(hi:ops[i]? =some oi)(U:decide (i<m)=true)(V:Dx ops m=true)(W:Region.noSelect ops=true)(K:(!Db oi.op)=true)(Y:Ht ops listed i oi=true)(Z:GI ops listed=true)(aa:(listed.size==ops.size)=true)(ab:(Region.ready .any ops listed).contains i=true)(ae:s.q=false)
  (hw:A8 L ops oi=some false) (ah:Bt n oi.dst=true)
  (h:AQ J Q b n ds ops k cs m D fuel (A6 listed i) (AB L oi.dst undef) s):AQ J Q b n ds ops k cs m D (fuel+1) listed L s:=fun T O=>by
 refine JA.take (w:=false) (v:=undef) hi (by simpa using U) V W (fun c ai=>by rw [ai] at K;simp [Db] at K) fuel listed T s Y Z (by simpa using aa) (by simpa using ab) ae (CR O hw) (fun e=>by cases e) ?_
 exact h _ (O.put ah undef)
theorem PE(Z:s.q=false)(aa:Region.ready .any ops listed≠ [])
  (h:∀i∈Region.ready .any ops listed,∀o,ops[i]? =some o→(!Db o.op)=true∧Bt n o.dst=true∧∃w,A8 L ops o=some w∧
   (w=false→AQ J Q b n ds ops k cs m D fuel (A6 listed i) (AB L o.dst undef) s)∧
   (w=true→∀ρ,Ej L ρ→lp P (execOp ρ o) (Bx D s) (fun nx s'=>match nx with
    | .value v=>AQ J Q b n ds ops k cs m D fuel (A6 listed i) (AB L o.dst v) (Cr D s s')
    | .skip=>AQ J Q b n ds ops k cs m D fuel (A6 listed i) (AB L o.dst undef) (Cr D s s')
    | .enter f args=>∃R,DN J f args (Cr D s s') R∧∀v K,R v K→K.q=false∧(∀x o,(Bx D s).E x=some o→(Bx D K).E x=some o)∧AQ J Q b n ds ops k cs m D fuel (A6 listed i) (AB L o.dst v) K
    | _=>False) (fun _ _=>False))):
  AQ J Q b n ds ops k cs m D (fuel+1) listed L s:=fun T O=>by
 refine .inr ⟨aa,Z,fun i hi o ab=>?_⟩
 obtain⟨Y,U,w,hw,ae,ah⟩:=h i hi o ab
 have V:=CR O hw
 refine⟨fun c ai=>by rw [ai] at Y;simp [Db] at Y,fun e=>?_,fun e=>?_⟩
 ·rw [e] at V
  exact ae V.symm _ (O.put U undef)
 ·rw [e] at V;refine Di _ (ah V.symm _ O.F2) ?_ (fun _ _ h=>h);intro nx s' W;cases nx with
  | value v=>exact W _ (O.put U v)
  | skip=>exact W _ (O.put U undef)
  | enter f args=>
   obtain⟨R,aj,ak⟩:=W;exact⟨R,aj,fun v K al=>let ⟨a,b,c⟩:=ak v K al;⟨a,b,c _ (O.put U v)⟩⟩
  | _=>exact W.elim
theorem AQ.one{i:Nat}{o:Oper}(Y:s.q=false)(V:Region.ready .any ops listed= [i])(hi:ops[i]? =some o)(O:(!Db o.op&&Bt n o.dst)=true)(hw:A8 L ops o=some true)
  (h:∀ρ,Ej L ρ→lp P (execOp ρ o) (Bx D s) (fun nx s'=>match nx with
    | .value v=>AQ J Q b n ds ops k cs m D fuel (A6 listed i) (AB L o.dst v) (Cr D s s')
    | .skip=>AQ J Q b n ds ops k cs m D fuel (A6 listed i) (AB L o.dst undef) (Cr D s s')
    | .enter f args=>∃R,DN J f args (Cr D s s') R∧∀v K,R v K→K.q=false∧(∀x o,(Bx D s).E x=some o→(Bx D K).E x=some o)∧AQ J Q b n ds ops k cs m D fuel (A6 listed i) (AB L o.dst v) K
    | _=>False) (fun _ _=>False)):
  AQ J Q b n ds ops k cs m D (fuel+1) listed L s:=by
 simp only [Bool.and_eq_true] at O;refine PE Y (by rw [V];simp) fun j U o' W=>?_;rw [V] at U;simp at U;subst U;obtain rfl:o'=o:=by rw [hi] at W;exact(Option.some.inj W).symm
 exact⟨O.1,O.2,true,hw,fun e=>(by cases e),fun _=>h⟩
theorem AQ.call{i:Nat}{d:Option Tmp}{f:FuncId}{args:Array Operand}{ats:Array TypeId}{ty:TypeId}{p:String}{af:Ae_}{g:On_}{vs:Lv_}{R:Value→St→Prop}(U:s.q=false)(V:Region.ready .any ops listed= [i])
  (W:ops[i]? =some ⟨d,.call ⟨.value (.func f),args,ats⟩,ty,p,af,g⟩) (Y:Bt n d=true) (hw:A8 L ops ⟨d,.call ⟨.value (.func f),args,ats⟩,ty,p,af,g⟩=some true) (hb:DG P f=true) (Z:evs L args.toList=some vs)
  (aa:DN J f vs.toArray s R) (h:∀v K,R v K→K.q=false∧(∀x o,(Bx D s).E x=some o→(Bx D K).E x=some o)∧AQ J Q b n ds ops k cs m D fuel (A6 listed i) (AB L d v) K):
  AQ J Q b n ds ops k cs m D (fuel+1) listed L s:=by
 refine AQ.one U V W (by simp [Db,Y]) hw fun ρ O=>?_;have ab:args.map ρ=vs.toArray:=by
  rw [← Ga O Z];apply Array.ext';simp
 have ae:ρ (.func f)= .func (.func f) #[] #[]:=O _ _ rfl;simp only [execOp,resolve,bind,Sem.bind,Deferred.ofValue,ae,pure,invoke];have e: #[]++args.map ρ++ #[]=vs.toArray:=by rw [ab];simp
 rw [e];refine IK hb ?_;rw [JJ];exact⟨R,aa,h⟩
theorem AQ.leaf{tail:List Nat}(K:NT m listed=true)(hgo:∀t,Region.linearise.go .any ops (fuel+1) t listed []=tail)(h:JL J Q b n L ds (.inRegion ops tail::k) cs s):AQ J Q b n ds ops k cs m D (fuel+1) listed L s:=fun T O=>
 .inl ⟨K,fun t=>by rw [hgo t];exact h T O⟩
theorem AQ.fin(K:Region.ready .any ops listed= [])(h:JL J Q b n L ds k cs s):AQ J Q b n ds ops k cs m D 0 listed L s:=fun T O=>⟨K,JL.done h T O⟩
theorem WN{listed:Array Bool}{i:Nat}{tail:List Nat}{fuel:Nat}(K:Region.ready .any ops listed= [i])(h:∀t,Region.linearise.go .any ops fuel t (A6 listed i) []=tail)(t:Nat):Region.linearise.go .any ops (fuel+1) t listed []=i::tail:=by
 simp only [Region.linearise.go];change (match(Region.ready .any ops listed)[t % (Region.ready .any ops listed).length]? with
  | some i=>Region.linearise.go .any ops fuel (t / (Region.ready .any ops listed).length) (listed.setIfInBounds i true) [i]
  | none=> [].reverse)=_
 rw [K];simp only [List.length_singleton,Nat.mod_one,List.getElem?_cons_zero];rw [linearise_go_acc];have:=h (t / 1);unfold A6 at this;rw [this];rfl
theorem TS{i:Nat}{rest:List Nat}{d:Option Tmp}{f:FuncId}{args:Array Operand}{ats:Array TypeId}{ty:TypeId}{p:String}{af:Ae_}{g:On_}{vs:Lv_}{R:Value→St→Prop}
  (U:ops[i]? =some ⟨d,.call ⟨.value (.func f),args,ats⟩,ty,p,af,g⟩) (hw:A8 L ops ⟨d,.call ⟨.value (.func f),args,ats⟩,ty,p,af,g⟩=some true) (K:((b.kind != .early)&&Bt n d)=true) (hb:DG P f=true)
  (V:evs L args.toList=some vs) (W:DN J f vs.toArray s R) (Y:∀v s',R v s'→JL J Q b n (AB L d v) ds (.inRegion ops rest::k) cs s'):
  JL J Q b n L ds (.inRegion ops (i::rest)::k) cs s:=fun T O=>by
 simp only [Bool.and_eq_true] at K
 have Z:args.map (BB T)=vs.toArray:=by
  rw [← Ga O.F2 V];apply Array.ext';simp
 refine Judge.oper U (CR O hw) (by simpa using K.1) (.inr fun c aa=>by cases aa) ?_;have ab:lp P (execOp (BB T) ⟨d,.call ⟨.value (.func f),args,ats⟩,ty,p,af,g⟩) s (upon J Q b T ds ops i rest k cs d) (Mp J Q b T ds ops i rest k cs):=by
  simp only [execOp,resolve,bind,Sem.bind,Deferred.ofValue,BB,pure,invoke];have e: #[]++args.map (BB T)++ #[]=vs.toArray:=by rw [Z];simp
  rw [e];refine IK hb (W Q _ cs fun v s' ae=>?_);rw [FW (o:=⟨d,.call ⟨.value (.func f),args,ats⟩,ty,p,af,g⟩) _ _ _ _ _ U];exact Y v s' ae _ (O.put K.2 v)
 exact ab
theorem DN.enter{f:FuncId}{fn:Func}{c:Code}{vs:Lv_}{R:Value→St→Prop}(V:P.funcs[f]? =some fn)(hb:fn.body=some c)(Z:vs.length≤fn.ntmps)
  (h:∀(Q:Gs_) (K:Frame) (cs:Lf_),(∀v s',R v s'→J.ok Q (G (K.finish v) cs) s')→JL J Q (base f) fn.ntmps (Fs 0 vs) [] [.code c] (K::cs) s):DN J f vs.toArray s R:=fun Q K cs W=>by
 have he:Frame.enter P f vs.toArray .normal=fr (base f) (vs.toArray++Array.replicate (fn.ntmps - vs.length) undef) [] [.code c]:=by
  simp [Frame.enter,fr,V,hb,base];rfl
 rw [he];refine h Q K cs W _ ⟨by simp;omega,fun t v ht=>?_⟩;obtain⟨_,O⟩:=IL ht;have Y:t<vs.length:=by
  rcases Nat.lt_or_ge t vs.length with U | U
  ·exact U
  ·simp at O;have:=(List.getElem?_eq_some_iff.1 O).1;omega
 rw [Array.getD_eq_getD_getElem?,Array.getElem?_append_left (by simpa using Y)];simp at O;simp [O]
end
end Pal
namespace Pal
open Go Go.Conc
section
variable {P:Program}{J:Judge P}{Q:Gs_}{b:Frame}{n:Nat}{ds:Ld_}{ops:Ao_}{k:Li_}{cs:Lf_}{L:Env}{s:St}{E E' H:LH}{B B0:List (Nat×Obj)}
theorem Qh(O:s.q=false)(h:(∃w,Fits s w)→JL J Q b n L ds k cs s):JL J Q b n L ds k cs s:=fun T U=>by
 by_cases K:∃w,Fits s w
 ·exact h K T U
 ·exact J.step ⟨rfl,fun w f=>absurd ⟨w,f⟩ K,fun e=>by subst e;cases O⟩
theorem OS{x:Nat}:∀{B:List (Nat×Obj)},(∃p∈B,p.1=x)→A7 B H x≠none
 | [],⟨p,K,_⟩=>by cases K
 | (c,o)::B,⟨p,K,e⟩=>by
  simp only [A7]
  split
  ·simp
  ·rename_i O;rcases List.mem_cons.1 K with q | q
   ·subst q;exact absurd e.symm O
   ·exact OS ⟨p,q,e⟩
theorem Nd.grow(O:Nd E H B)(U:∀x,E' x≠none→A7 B H x=none):Nd E' H B:=by
 have key:∀{C:List (Nat×Obj)},Nd E H C→(∀p∈C,p∈B)→Nd E' H C:=by
  intro C
  induction C with
  | nil=>intro _ _;trivial
  | cons p C V=>
   obtain⟨c,o⟩:=p;intro hC hs;refine⟨?_,hC.2.1,hC.2.2.1,V hC.2.2.2 fun p K=>hs p (List.mem_cons_of_mem _ K)⟩;cases W:E' c with
   | none=>rfl
   | some u=>exact absurd (U c (by rw [W];simp)) (OS ⟨(c,o),hs _ (by simp),rfl⟩)
 exact key O fun p K=>K
def Oj(E:LH)(K:Nat)(v:Value)(n:Nat)(xs:Lv_):Prop:=
 ∃a c,v= .slice a n c∧n≤c∧xs.length=n*K∧(n=0∨∃bk off f e fr,a=some ⟨bk,off,none⟩∧E bk=some (.cells f e fr)∧∀j w,xs[j]? =some w→f[off+j]? =some w)
theorem Oj.nil{K:Nat}:Oj E K (.slice none 0 0) 0 []:=⟨none,0,rfl,Nat.le_refl _,by simp,.inl rfl⟩
def GS(e:TypeId)(K:Nat)(a:Option Addr)(l c:Nat)(blk:List (Nat×Obj))(xs:Lv_):Prop:=
 (a=none∧l=0∧c=0∧blk= []∧xs= [])∨∃bk f,a=some ⟨bk,0,none⟩∧blk= [(bk,.cells f e (0,0))]∧f.size=c*K∧l≤c∧xs=f.toList.take (l*K)
theorem GS.nil{e:TypeId}{K:Nat}:GS e K none 0 0 [] []:= .inl ⟨rfl,rfl,rfl,rfl,rfl⟩
theorem GS.length{e:TypeId}{K:Nat}{a:Option Addr}{l c:Nat}{blk:List (Nat×Obj)}{xs:Lv_}(h:GS e K a l c blk xs):xs.length=l*K:=by
 rcases h with⟨_,rfl,_,_,rfl⟩ | ⟨bk,f,_,_,O,U,rfl⟩
 ·simp
 ·have:l*K≤c*K:=Nat.mul_le_mul_right _ U;simp [O,Nat.min_eq_left this]
theorem RY{t e:TypeId}{v:Value}{Q:Value→St→Prop}{X:Halt→St→Prop}{z:Value}(ht:P.underlying t=some (.slice e))(O:Bs P e=some v.cells.size)(U:zeroOf P e=some z)(aa:z.cells.size=v.cells.size)(ab:0<v.cells.size)(ae:v.cells.size≤64)
  (V:Nd E H B) (k:∀r,Nd E H (B++ [(r,.cells v.cells e (0,0))])→Q (.slice (some ⟨r,0,none⟩) 1 1) (mk E H (B++ [(r,.cells v.cells e (0,0))]))):lp P (Instr.buildSlice t 1 #[(0,v)]) (mk E H B) Q X:=by
 unfold Instr.buildSlice;refine AF _ _ (Dh ht ?_);refine AF _ _ (EG O ?_);rw [if_neg (by omega),if_neg (by omega)];refine AF (x:=zeroValue e) _ (FU U ?_);have W:Instr.fill (fun i=>some (i*v.cells.size,v.cells.size)) ((Array.range (1*v.cells.size)).map fun i=>z.cells[i % z.cells.size]!) [(0,v)]=some v.cells:=by
  simp only [Instr.fill,Array.size_map,Array.size_range,Nat.one_mul,Nat.zero_mul];rw [if_neg (by simp)];congr 1;apply Array.ext_getElem?;intro j;have key:∀(l:Lv_) (st:Nat) (c:Ay),st+l.length≤c.size→∀j,(List.foldl (fun cs (p:Value×Nat)=>cs.setIfInBounds (0+p.2) p.1) c (l.zipIdx st))[j]? =if st≤j∧j<st+l.length then l[j - st]? else c[j]? :=by
   intro l
   induction l with
   | nil=>intro st c _ j;simp;omega
   | cons x l Y=>
    intro st c ah j;simp only [List.zipIdx_cons,List.foldl_cons,List.length_cons] at*;rw [Y (st+1) _ (by simp;omega) j];simp only [Nat.zero_add];by_cases Z:j=st
    ·subst Z;rw [if_neg (by omega),if_pos (by omega)];rw [Nat.sub_self,List.getElem?_cons_zero,Array.getElem?_setIfInBounds_self_of_lt (by omega)]
    ·by_cases e2:st+1≤j∧j<st+1+l.length
     ·rw [if_pos e2,if_pos (by omega)];have:j - st=(j - (st+1))+1:=by omega
      rw [this];simp
     ·rw [if_neg e2,if_neg (by omega),Array.getElem?_setIfInBounds_ne (by omega)]
  have:=key v.cells.toList 0 ((Array.range v.cells.size).map fun i=>z.cells[i % z.cells.size]!) (by simp) j;rw [← Array.foldl_toList,Array.toList_zipIdx,this];by_cases K:j<v.cells.size
  ·simp [K]
  ·simp [K]
 rw [GY];simp only [W];exact AF _ _ (G1 V k)
end
end Pal
namespace Pal
open Go Go.Conc
section
variable {P:Program}{J:Judge P}{Q:Gs_}{b:Frame}{n:Nat}{ds:Ld_}{ops:Ao_}{k:Li_}{cs:Lf_}{L:Env}{s:St}{E E' H:LH}{B B0:List (Nat×Obj)}
theorem Lb{ρ:Operand→Value}{d:Option Tmp}{x y:Operand}{ats:Array TypeId}{ty:TypeId}{p:String}{af:Ae_}{g:On_}:
  execOp ρ ⟨d,.call ⟨.builtin .append,#[x,y],ats⟩,ty,p,af,g⟩=(do pure (Next.value (← Builtin.append_ ats ty #[ρ x,ρ y]))):=by
 simp [execOp,resolve,invoke,builtin,bind,Sem.bind,pure]
theorem R1{ρ:Operand→Value}{d:Option Tmp}{y:Operand}{t ty:TypeId}{p:String}{af:Ae_}{g:On_}:
  execOp ρ ⟨d,.buildSlice t 1 #[(0,y)],ty,p,af,g⟩=(do pure (Next.value (← Instr.buildSlice t 1 #[(0,ρ y)]))):=by
 simp [execOp]
theorem V2{L:Env}{d1:Tmp}{w:Value}:ev (AB L (some d1) w) (.tmp d1)=some w:=by
 simp [AB,ev,look]
theorem HS{α:Type}(l r:List α)(x y:α):(l++x::r).set l.length y=l++y::r:=by simp
theorem HK{e t t1:TypeId}{V ah l c m:Nat}{a:Option Addr}{blk:List (Nat×Obj)}{xs ys:Lv_}{i:Nat}{rest:List Nat}{d:Option Tmp}{x y:Operand}{ats:Array TypeId}{ty:TypeId}{p:String}{af:Ae_}{g:On_}{z:Value}{ax:Option Addr}{cx:Nat}{B1:List (Nat×Obj)}
  (ar:ops[i]? =some ⟨d,.call ⟨.builtin .append,#[x,y],ats⟩,ty,p,af,g⟩) (hw:A8 L ops ⟨d,.call ⟨.builtin .append,#[x,y],ats⟩,ty,p,af,g⟩=some true) (au:CL b n ⟨d,.call ⟨.builtin .append,#[x,y],ats⟩,ty,p,af,g⟩=true)
  (av:ev L x=some (.slice a l c)) (aw:ev L y=some (.slice ax m cx)) (ay:ats[0]? =some t) (az:ats[1]? =some t1) (ht:P.underlying t=some (.slice e)) (aA:P.underlying t1=some (.slice e)) (aB:Bs P e=some V) (hb:Ed P e=some ah) (aC:zeroOf P e=some z) (aD:z.cells.size=V)
  (aE:0<ah) (aF:ah≤64) (aO:0<m) (aG:l+m≤2 ^ 40) (aH:∀w∈ys,CK w=true) (ai:GS e V a l c blk xs) (aI:Nd E H (B0++blk++B1)) (hs:Gh (mk E H (B0++blk++B1)) (.slice ax m cx) V ys)
  (h:∀ap Z aj,GS e V ap (l+m) Z aj (xs++ys)→Nd E H (B0++aj)→JL J Q b n (AB L d (.slice ap (l+m) Z)) ds (.inRegion ops rest::k) cs (mk E H (B0++aj))):
  JL J Q b n L ds (.inRegion ops (i::rest)::k) cs (mk E H (B0++blk++B1)):=by
 refine JL.op ar hw au fun ρ aq=>?_;rw [Lb,aq x _ av,aq y _ aw];have aJ:Ms (B0++blk++B1) B0.length e V a l c xs:=by
  rcases ai with⟨O,Y,aa,ak,ab⟩ | ⟨bk,f,O,Y,aa,ak,ab⟩
  ·exact .inl ⟨O,Y,aa,ab⟩
  ·refine .inr ⟨bk,f,O,?_,aa,ak,ab⟩;subst Y;simp
 have hlen:=ai.length;refine AF _ _ (M8 (pl:=B0.length) ay az aA ht aB hb aC aD aI aJ hs aH aE aG aF ?_ ?_ ?_)
 ·
  intro bk f K ae aP aQ aK al am W;rcases ai with⟨O,_⟩ | ⟨U,f0,O,Y,aa,ak,ab⟩
  ·rw [O] at ae;cases ae
  ·subst Y;have aL:U=bk:=by rw [O] at ae;simpa using ae
   subst aL;have aM:(B0++ [(U,Obj.cells f0 e (0,0))]++B1).set B0.length (U,.cells K e (0,0))=B0++ [(U,.cells K e (0,0))]++B1:=by
    rw [List.append_assoc,List.append_assoc];exact HS _ _ _ _
   rw [aM] at W ⊢;have an:Nd E H (B0++ [(U,.cells K e (0,0))]):=Nd.left W;refine JL.drop (B0++ [(U,.cells K e (0,0))]) (fun p ao=>?_) W (h a c _ (.inr ⟨U,K,O,rfl,al,aK,am.symm⟩) an);exact List.mem_iff_getElem?.1 (List.mem_append_left _ ao)
 ·intro _ hm;omega
 ·
  intro r K Z aN al am W;have an:Nd E H (B0++ [(r,.cells K e (0,0))]):=Nd.pick W;refine JL.drop (B0++ [(r,.cells K e (0,0))]) (fun p ao=>?_) W (h (some ⟨r,0,none⟩) Z _ (.inr ⟨r,K,rfl,rfl,al,aN,am.symm⟩) an);refine List.mem_iff_getElem?.1 ?_;rcases List.mem_append.1 ao with q | q
  ·simp [q]
  ·exact List.mem_append_right _ q
 where
  Nd.left {E H : LH} {A C : List (Nat × Obj)} (h : Nd E H (A ++ C)) : Nd E H A := by
    induction A with
    | nil => trivial
    | cons p A ih =>
      obtain ⟨c, o⟩ := p
      obtain ⟨h1, h2, h3, h4⟩ := h
      exact ⟨h1, h2, fun q hq => h3 q (List.mem_append_left _ hq), ih h4⟩
  Nd.pick {E H : LH} {A C F : List (Nat × Obj)} {x : Nat × Obj} (h : Nd E H (A ++ C ++ F ++ [x])) : Nd E H (A ++ [x]) := by
    induction A with
    | nil =>
      have : ∀ (D : List (Nat × Obj)), Nd E H (D ++ [x]) → Nd E H [x] := by
        intro D
        induction D with
        | nil => exact fun h => h
        | cons p D ih => obtain ⟨c, o⟩ := p; exact fun h => ih h.2.2.2
      exact this _ h
    | cons p A ih =>
      obtain ⟨c, o⟩ := p
      obtain ⟨h1, h2, h3, h4⟩ := h
      refine ⟨h1, h2, fun q hq => h3 q ?_, ih h4⟩
      rcases List.mem_append.1 hq with hq | hq
      · simp [hq]
      · exact List.mem_append_right _ hq
theorem Th{K r:Nat}{e:TypeId}{v:Value}{A:List (Nat×Obj)}(O:v.cells.size=K)(U:Nd E H (A++ [(r,.cells v.cells e (0,0))])):
  Gh (mk E H (A++ [(r,.cells v.cells e (0,0))])) (.slice (some ⟨r,0,none⟩) 1 1) K v.cells.toList:=by
 refine⟨.inl rfl,by simp [O],Nat.le_refl _,fun j w V=>?_⟩;simp only [Nat.zero_add];refine Pq (i:=A.length) U (c:=v.cells) (e:=e) (f:=(0,0)) (by simp) ?_;simpa using V
theorem Sz{e t t1 t2:TypeId}{K O l c:Nat}{a:Option Addr}{blk:List (Nat×Obj)}{xs:Lv_}{i aa:Nat}{rest:List Nat}{d1:Tmp}{d:Option Tmp}{x y:Operand}{ats:Array TypeId}{ty U:TypeId}{p V:String}{af W:Ae_}{g g':On_}{z v:Value}
  (al:ops[i]? =some ⟨some d1,.buildSlice t2 1 #[(0,y)],U,V,W,g'⟩) (hw:A8 L ops ⟨some d1,.buildSlice t2 1 #[(0,y)],U,V,W,g'⟩=some true) (am:CL b n ⟨some d1,.buildSlice t2 1 #[(0,y)],U,V,W,g'⟩=true)
  (an:ops[aa]? =some ⟨d,.call ⟨.builtin .append,#[x,.tmp d1],ats⟩,ty,p,af,g⟩) (ao:∀w,A8 (AB L (some d1) w) ops ⟨d,.call ⟨.builtin .append,#[x,.tmp d1],ats⟩,ty,p,af,g⟩=some true) (ap:CL b n ⟨d,.call ⟨.builtin .append,#[x,.tmp d1],ats⟩,ty,p,af,g⟩=true)
  (aq:∀w,ev (AB L (some d1) w) x=some (.slice a l c)) (ar:ev L y=some v) (au:ats[0]? =some t) (av:ats[1]? =some t1) (ht:P.underlying t=some (.slice e)) (aw:P.underlying t1=some (.slice e)) (ay:P.underlying t2=some (.slice e)) (ab:Bs P e=some K) (hb:Ed P e=some O) (ae:zeroOf P e=some z) (ah:z.cells.size=K)
  (az:0<O) (aA:O≤64) (Y:v.cells.size=K) (aG:0<K) (aH:K≤64) (aB:l+1≤2 ^ 40) (aC:∀w∈v.cells.toList,CK w=true) (aD:GS e K a l c blk xs) (aE:Nd E H (B0++blk))
  (h:∀w ai aj Z,GS e K ai (l+1) aj Z (xs++v.cells.toList)→Nd E H (B0++Z)→JL J Q b n (AB (AB L (some d1) w) d (.slice ai (l+1) aj)) ds (.inRegion ops rest::k) cs (mk E H (B0++Z))):
  JL J Q b n L ds (.inRegion ops (i::aa::rest)::k) cs (mk E H (B0++blk)):=by
 refine JL.op al hw am fun ρ aF=>?_;rw [R1,aF y _ ar];refine AF _ _ (RY (z:=z) (v:=v) ay (by rw [Y];exact ab) ae (by rw [Y];exact ah) (by omega) (by omega) aE fun r ak=>?_);refine HK (B1:= [(r,.cells v.cells e (0,0))]) (m:=1) (cx:=1) (ax:=some ⟨r,0,none⟩) (y:= .tmp d1) (x:=x) (ys:=v.cells.toList) (l:=l) (c:=c) (a:=a) (blk:=blk) (xs:=xs) an (ao _) ap (aq _) V2 au av ht aw ab hb ae ah az aA (by omega) aB aC aD ak ?_ (h _);exact Th Y ak
theorem Sc{e:TypeId}{K l c:Nat}{a:Option Addr}{blk:List (Nat×Obj)}{xs:Lv_}{todo:Li_}(Y:GS e K a l c blk xs)(U:Nd E H (B0++blk))
  (h:∀E',Le E E'→Oj E' K (.slice a l c) l xs→Nd E' H B0→JL J Q b n L ds todo cs (mk E' H B0)):JL J Q b n L ds todo cs (mk E H (B0++blk)):=by
 rcases Y with⟨rfl,rfl,rfl,rfl,rfl⟩ | ⟨bk,f,rfl,rfl,Z,V,rfl⟩
 ·simp only [List.append_nil] at U ⊢;exact h E (Le.refl _) .nil U
 ·have aa:(B0++ [(bk,Obj.cells f e (0,0))])[B0.length]? =some (bk,Obj.cells f e (0,0)):=by simp
  refine JL.freeze B0.length U aa fun E' hle ab W=>?_;have ae:(B0++ [(bk,Obj.cells f e (0,0))]).eraseIdx B0.length=B0:=by rw [List.eraseIdx_append_of_length_le (Nat.le_refl _)];simp
  rw [ae] at W ⊢;refine h E' hle ⟨_,c,rfl,V,?_,.inr ⟨bk,0,f,e,(0,0),rfl,ab,fun j w O=>?_⟩⟩ W
  ·have:l*K≤c*K:=Nat.mul_le_mul_right _ V;simp [Z,Nat.min_eq_left this]
  ·rw [List.getElem?_take] at O;split at O
   ·simpa using O
   ·cases O
end
end Pal
namespace Pal
open Go Go.Conc
abbrev Ee(s:Nat):Value:= .int .u16 (s:Int)
abbrev iV(n:Int):Value:= .int .i64 n
section
variable {P:Program}{s:St}{ρ:Operand→Value}{d:Option Tmp}{t u ty:TypeId}{x y:Operand}{p:String}{af:Ae_}{g:On_}{a c:Nat}
theorem NG{m:Nat}(h:m<65536):IntKind.u16.wrap (m:Int)=m:=by
 simp only [IntKind.wrap,IntKind.bits,IntKind.signed];simp;omega
theorem MC{m:Nat}(h:m<65536):(BitVec.ofInt IntKind.u16.bits (m:Int)).toNat=m:=by
 simp [IntKind.bits,BitVec.toNat_ofInt];omega
theorem Ut(K:ρ x=Ee a)(O:ρ y=iV (c:Int))(U:c≤16):Yl P ⟨d,.binOp .shr t x y u,ty,p,af,g⟩ ρ s (Ee (a>>>c)):=by
 have h:=Yl.shr (P:=P) (s:=s) (d:=d) (t:=t) (u:=u) (ty:=ty) (p:=p) (af:=af) (g:=g) K O (by omega);have e:((a:Int).fdiv (2 ^ (min (c:Int).toNat IntKind.u16.bits)))=((a>>>c:Nat):Int):=by
  have:min (c:Int).toNat IntKind.u16.bits=c:=by simp [IntKind.bits];omega
  rw [this,Nat.shiftRight_eq_div_pow,Int.fdiv_eq_ediv_of_nonneg _ (Int.pow_nonneg (by decide))];rw [Int.natCast_ediv]
  rfl
 rw [e] at h;exact h
theorem Vq(O:ρ x=Ee a)(U:ρ y=Ee c)(K:a<65536)(V:c<65536):Yl P ⟨d,.binOp .and t x y u,ty,p,af,g⟩ ρ s (Ee (a&&& c)):=by
 have h:=Yl.and (P:=P) (s:=s) (d:=d) (t:=t) (u:=u) (ty:=ty) (p:=p) (af:=af) (g:=g) O U;rw [BitVec.toNat_and,MC K,MC V,NG (Nat.lt_of_le_of_lt Nat.and_le_left K)] at h;exact h
theorem Wa(U:ρ x=Ee a)(V:ρ y=Ee c)(K:a<65536)(O:c<65536):Yl P ⟨d,.binOp .or t x y u,ty,p,af,g⟩ ρ s (Ee (a ||| c)):=by
 have h:=Yl.or (P:=P) (s:=s) (d:=d) (t:=t) (u:=u) (ty:=ty) (p:=p) (af:=af) (g:=g) U V;rw [BitVec.toNat_or,MC K,MC O,NG (Nat.or_lt_two_pow (n:=16) K O)] at h;exact h
theorem U9(K:ρ x=Ee 1)(O:ρ y=iV (c:Int))(U:c<16):Yl P ⟨d,.binOp .shl t x y u,ty,p,af,g⟩ ρ s (Ee (1<<<c)):=by
 have h:=Yl.shl (P:=P) (s:=s) (d:=d) (t:=t) (u:=u) (ty:=ty) (p:=p) (af:=af) (g:=g) K O (by omega);have e:IntKind.u16.wrap (((1:Nat):Int)*2 ^ (min (c:Int).toNat IntKind.u16.bits))=((1<<<c:Nat):Int):=by
  have V:min (c:Int).toNat IntKind.u16.bits=c:=by simp [IntKind.bits];omega
  have W:(1<<<c)<65536:=by rw [Nat.one_shiftLeft];exact Nat.pow_lt_pow_right (n:=16) (by omega) U
  rw [V,← NG W,Nat.one_shiftLeft];simp
 rw [e] at h;exact h
end
theorem Np{P:Program}{t:TypeId}{K:TypeInfo}(h:P.types[t]? =some K):P.info? t=some K:=by
 have:=(Array.getElem?_eq_some_iff.1 h).1;unfold Tables.info?;rw [if_pos this,h]
theorem Bf{P:Program}{t:TypeId}{K:TypeInfo}(h:P.types[t]? =some K):Bs P t=some K.size:=by simp [Bs,Np h]
theorem Cs{P:Program}{t:TypeId}{K:TypeInfo}(h:P.types[t]? =some K):Ed P t=some K.bytes:=by simp [Ed,Np h]
theorem D6{P:Program}{t:TypeId}{K:TypeInfo}(h:P.types[t]? =some K):zeroOf P t=K.zero:=by simp [zeroOf,Np h]
def VQ:TypeDesc→Bool | .struct _=>true | .array _ _=>true | _=>false
theorem D1{P:Program}{t:TypeId}{d:TypeDesc}(h:P.underlying t=some d):Dk P t=some (VQ d):=by
 unfold Dk;rw [h];cases d <;> rfl
theorem A5{P:Program}{f:FuncId}{fn:Func}(h:P.funcs[f]? =some fn)(hb:(!(fn.name== "runtime.NumGoroutine")&&fn.body.isSome)=true):DG P f=true:=by
 simp only [DG,h];exact hb
theorem Vf(a c:Nat):decide (((a>>>c&&& 1:Nat):Int)=((1:Nat):Int))=a.testBit c:=by
 have:a.testBit c=decide ((a>>>c)&&& 1=1):=by
  rw [Nat.testBit,Nat.and_comm];rcases Nat.mod_two_eq_zero_or_one (a>>>c) with h | h <;> simp [Nat.and_one_is_mod,Nat.one_and_eq_mod_two,h]
 rw [this];congr 1;simp only [eq_iff_iff];omega
def Qx(a:Nat):Nat→List Nat
 | 0=> []
 | n+1=>Qx a n++(if a.testBit n then [n] else [])
abbrev MA(a:Nat):List Nat:=Qx a 16
end Pal
namespace Pal
end Pal
namespace Pal
open Go Go.Conc
end Pal
namespace Pal
open Go Go.Conc
def At(E:LH)(bk o:Nat)(ws:Lv_):Prop:=∃f e fr,E bk=some (.cells f e fr)∧∀j w,ws[j]? =some w→f[o+j]? =some w
theorem At.Ai{E E':LH}{bk o:Nat}{ws:Lv_}(h:At E bk o ws)(hle:Le E E'):At E' bk o ws:=let ⟨f,e,fr,K,O⟩:=h;⟨f,e,fr,hle _ _ K,O⟩
theorem At.cell{E H:LH}{B:List (Nat×Obj)}{bk o j:Nat}{ws:Lv_}{w:Value}(h:At E bk o ws)(K:ws[j]? =some w):(mk E H B).cell? ⟨bk,o+j,none⟩=some w:=
 let ⟨_,_,_,O,U⟩:=h;S6 O (U j w K)
theorem At.cells{E H:LH}{B:List (Nat×Obj)}{bk o:Nat}{ws:Lv_}(h:At E bk o ws):∀j v,ws[j]? =some v→(mk E H B).cell? (Addr.add ⟨bk,o,none⟩ j)=some v:=fun j v K=>by
 rw [DT rfl];exact h.cell K
section
variable {P:Program}{J:Judge P}{Q:Gs_}{b:Frame}{n:Nat}{ds:Ld_}{ops:Ao_}{k:Li_}{cs:Lf_}{L:Env}{s:St}{E E' H:LH}{B B0:List (Nat×Obj)}
variable {d:Option Tmp}{x y:Operand}{t u ty e:TypeId}{p:String}{af:Ae_}{g:On_}{v:Value}{i:Nat}{rest:List Nat}{kd:IntKind}
theorem JL.put(h:look L i=some v)(O:JL J Q b n (AB L (some i) v) ds k cs s):JL J Q b n L ds k cs s:=fun T K=>
 O T ⟨K.size,fun t w e=>by
  simp only [AB,look] at e
  split at e
  ·rename_i U;subst U;cases e;exact K.at_ _ _ h
  ·exact K.at_ _ _ e⟩
theorem Tg{q:Prop} [Decidable q] (h:look L i=some (.bool (decide q)))(O:q→JL J Q b n (AB L (some i) (.bool true)) ds k cs s)(U:¬q→JL J Q b n (AB L (some i) (.bool false)) ds k cs s):JL J Q b n L ds k cs s:=by
 by_cases K:q
 ·refine JL.put (i:=i) (v:= .bool true) ?_ (O K);rw [h,decide_eq_true K]
 ·refine JL.put (i:=i) (v:= .bool false) ?_ (U K);rw [h,decide_eq_false K]
theorem Tt{c:Bool}(h:look L i=some (.bool c))(K:c=true→JL J Q b n (AB L (some i) (.bool true)) ds k cs s)(O:c=false→JL J Q b n (AB L (some i) (.bool false)) ds k cs s):JL J Q b n L ds k cs s:=by
 cases c
 ·exact JL.put h (O rfl)
 ·exact JL.put h (K rfl)
end
end Pal
namespace Pal
open Go Go.Conc
theorem Re{P:Program}{s:St}{ρ:Operand→Value}{d:Option Tmp}{t ty ft:TypeId}{x:Operand}{p:String}{af:Ae_}{g:On_}{a:Addr}{K:Array Field}{i:Nat}{fl:Field}(O off:Nat)(ht:P.underlying t=some (.struct K))(U:Bs P ft=some (O+1))(hi:K[i]? =some fl)(V:fl.type=ft)(W:fl.offset=off)(Y:ρ x= .pointer (some a)):
  Yl P ⟨d,.fieldAddr t x i,ty,p,af,g⟩ ρ s (.pointer (some (a.add off))):=by
 subst V W;exact Yl.fieldAddr ht hi U Y
end Pal
namespace Pal
open Go Go.Conc
section
variable {P:Program}{J:Judge P}{Q:Gs_}{b:Frame}{n:Nat}{ds:Ld_}{ops:Ao_}{k:Li_}{cs:Lf_}{L:Env}{s:St}{E E' H:LH}{B B0:List (Nat×Obj)}
variable {d:Option Tmp}{x y:Operand}{t u ty e:TypeId}{p:String}{af:Ae_}{g:On_}{v:Value}{i:Nat}{rest:List Nat}{kd:IntKind}
theorem At.NX{bk o j:Nat}{ws:Lv_}{w:Value}(h:At E bk o ws)(hs:∀x o,E x=some o→s.E x=some o)(K:ws[j]? =some w):s.cell? ⟨bk,o+j,none⟩=some w:=by
 obtain⟨f,e,fr,O,U⟩:=h;unfold St.cell? St.get;rw [hs _ _ O];exact U j w K
theorem At.NB{bk o:Nat}{ws:Lv_}(h:At E bk o ws)(hs:∀x o,E x=some o→s.E x=some o):∀j v,ws[j]? =some v→s.cell? (Addr.add ⟨bk,o,none⟩ j)=some v:=fun j v K=>by
 rw [DT rfl];exact h.NX hs K
end
section
variable {P:Program}{J:Judge P}{Q:Gs_}{b:Frame}{n:Nat}{ds:Ld_}{ops:Ao_}{k:Li_}{cs:Lf_}{m fuel:Nat}{listed:Array Bool}{L:Env}{E H:LH}{B:List (Nat×Obj)}
variable {d:Option Tmp}{x y:Operand}{t u ty e:TypeId}{p:String}{af:Ae_}{g:On_}{v:Value}{i:Nat}{kd:IntKind}
end
end Pal
namespace Pal
open Go Go.Conc
section
variable {P:Program}{J:Judge P}{Q:Gs_}{b:Frame}{n:Nat}{ds:Ld_}{ops:Ao_}{k:Li_}{cs:Lf_}{m fuel:Nat}{D:Nat→Bool}{listed:Array Bool}{L:Env}{s:St}{i:Nat}{v:Value}
theorem AQ.put(h:look L i=some v)(O:AQ J Q b n ds ops k cs m D fuel listed (AB L (some i) v) s):AQ J Q b n ds ops k cs m D fuel listed L s:=fun T K=>
 O T ⟨K.size,fun t w e=>by
  simp only [AB,look] at e
  split at e
  ·rename_i U;subst U;cases e;exact K.at_ _ _ h
  ·exact K.at_ _ _ e⟩
theorem F9{q:Prop} [Decidable q] (h:look L i=some (.bool (decide q)))(O:q→AQ J Q b n ds ops k cs m D fuel listed (AB L (some i) (.bool true)) s)(U:¬q→AQ J Q b n ds ops k cs m D fuel listed (AB L (some i) (.bool false)) s):AQ J Q b n ds ops k cs m D fuel listed L s:=by
 by_cases K:q
 ·refine AQ.put (i:=i) (v:= .bool true) ?_ (O K);rw [h,decide_eq_true K]
 ·refine AQ.put (i:=i) (v:= .bool false) ?_ (U K);rw [h,decide_eq_false K]
end
end Pal
namespace Pal
open Go Go.Conc
structure Rp (α:Type) where
 n:Nat
 r:LH→Lv_→α→Prop
 Ai:∀{E E':LH} {ws:Lv_} {x:α},Le E E'→r E ws x→r E' ws x
 len:∀{E:LH} {ws:Lv_} {x:α},r E ws x→ws.length=n
 one:∀{E:LH} {ws:Lv_} {x:α},r E ws x→∀w∈ws,CK w=true
def rK(kd:IntKind):Rp Int:=⟨1,fun _ ws x=>ws= [.int kd x],fun _ h=>h,fun h=>by subst h;rfl,fun h w hw=>by subst h;simp at hw;subst hw;rfl⟩
abbrev rI:Rp Int:=rK .i64
def rN(kd:IntKind):Rp Nat:=⟨1,fun _ ws x=>ws= [.int kd ((x:Nat):Int)],fun _ h=>h,fun h=>by subst h;rfl,fun h w hw=>by subst h;simp at hw;subst hw;rfl⟩
def rB:Rp Bool:=⟨1,fun _ ws x=>ws= [.bool x],fun _ h=>h,fun h=>by subst h;rfl,fun h w hw=>by subst h;simp at hw;subst hw;rfl⟩
def rP{α β:Type}(p:Rp α)(q:Rp β):Rp (α×β):=⟨p.n+q.n,fun E ws x=>∃U V,ws=U++V∧p.r E U x.1∧q.r E V x.2,
 fun hle ⟨a,b,h,K,O⟩=>⟨a,b,h,p.Ai hle K,q.Ai hle O⟩,fun⟨a,b,h,K,O⟩=>by subst h;rw [List.length_append,p.len K,q.len O],
 fun⟨a,b,h,K,O⟩ w hw=>by
  subst h
  rcases List.mem_append.1 hw with hw | hw
  ·exact p.one K w hw
  ·exact q.one O w hw⟩
def An{α:Type}(p:Rp α)(E:LH)(a:Option Addr)(c:Nat)(xs:List α):Prop:=
 xs.length≤c∧((xs= []∧∀ad:Addr,a=some ad→ad.spot=none∨c=0)∨∃bk off,a=some ⟨bk,off,none⟩∧∀(i:Nat) x,xs[i]? =some x→∃ws,p.r E ws x∧At E bk (off+i*p.n) ws)
theorem An.Ai{α:Type}{p:Rp α}{E E':LH}{a:Option Addr}{c:Nat}{xs:List α}(h:An p E a c xs)(hle:Le E E'):An p E' a c xs:=
 ⟨h.1,h.2.imp id fun⟨bk,off,K,O⟩=>⟨bk,off,K,fun i x U=>let ⟨ws,V,W⟩:=O i x U;⟨ws,p.Ai hle V,W.Ai hle⟩⟩⟩
theorem An.nil{α:Type}{p:Rp α}{E:LH}{c:Nat}:An p E none c []:=⟨Nat.zero_le _,.inl ⟨rfl,fun _ h=>by cases h⟩⟩
def rL{α:Type}(p:Rp α):Rp (List α):=⟨1,fun E ws xs=>∃a c,ws= [.slice a xs.length c]∧An p E a c xs,
 fun hle ⟨a,c,h,K⟩=>⟨a,c,h,K.Ai hle⟩,fun⟨a,c,h,K⟩=>by subst h;rfl,fun⟨a,c,h,K⟩ w hw=>by subst h;simp at hw;subst hw;rfl⟩
def rA{α:Type}(k:Nat)(p:Rp α):Rp (List α):=⟨k*p.n,fun E ws xs=>xs.length=k∧∃wss:List (Lv_),ws=wss.flatten∧wss.length=k∧∀(i:Nat) x us,xs[i]? =some x→wss[i]? =some us→p.r E us x,
 fun hle ⟨U,wss,h,K,O⟩=>⟨U,wss,h,K,fun i x us a b=>p.Ai hle (O i x us a b)⟩,
 fun {E ws xs} ⟨U,wss,h,K,O⟩=>by
  subst h
  have:∀(wss:List (Lv_)) (xs:List α),xs.length=wss.length→(∀(i:Nat) x us,xs[i]? =some x→wss[i]? =some us→p.r E us x)→wss.flatten.length=wss.length*p.n:=by
   intro wss
   induction wss with
   | nil=>intro xs _ _;simp
   | cons us wss W=>
    intro xs V h
    cases xs with
    | nil=>simp at V
    | cons x xs=>
     rw [List.flatten_cons,List.length_append,p.len (h 0 x us rfl rfl),W xs (by simpa using V) (fun i y u a b=>h (i+1) y u a b),List.length_cons,Nat.succ_mul,Nat.add_comm]
  rw [this wss xs (by omega) O,K],
 fun {E ws xs} ⟨U,wss,h,K,O⟩ w hw=>by
  subst h
  obtain⟨us,Y,hw⟩:=List.mem_flatten.1 hw
  obtain⟨i,hi⟩:=List.mem_iff_getElem?.1 Y
  have Z:i<xs.length:=by rw [U,← K];exact(List.getElem?_eq_some_iff.1 hi).1
  exact p.one (O i _ us (List.getElem?_eq_getElem Z) hi) w hw⟩
def ix{α:Type}(xs:List α)(i:Int):Option α:=if 0≤i then xs[i.toNat]? else none
theorem G7{α:Type}{xs:List α}{i:Int}{x:α}(h:ix xs i=some x):∃m:Nat,i=m∧xs[m]? =some x:=by
 unfold ix at h;split at h
 ·exact⟨i.toNat,by omega,h⟩
 ·cases h
def Au(x:Int):Option Int:=if -9223372036854775808≤x∧x≤9223372036854775807 then some x else none
theorem JI{x y:Int}(h:Au x=some y):y=x∧ -9223372036854775808≤x∧x≤9223372036854775807:=by
 unfold Au at h;split at h
 ·rename_i hb;exact⟨(Option.some.inj h).symm,hb⟩
 ·cases h
theorem bind_some{α β:Type}{o:Option α}{f:α→Option β}{r:β}(h:o.bind f=some r):∃x,o=some x∧f x=some r:=by
 cases o with
 | none=>cases h
 | some x=>exact⟨x,rfl,h⟩
inductive Bj (S A:Type) where
 | more (s:S)
 | done (a:A)
def iter{S A:Type}(body:S→Option (Bj S A)):Nat→S→Option A
 | 0,_=>none
 | f+1,s=>match body s with
  | none=>none
  | some (.done a)=>some a
  | some (.more s')=>iter body f s'
theorem O7{S A:Type}{body:S→Option (Bj S A)}{f:Nat}{s:S}{a:A}(h:iter body (f+1) s=some a):∃st,body s=some st:=by
 simp only [iter] at h;cases hb:body s with
 | none=>rw [hb] at h;cases h
 | some st=>exact⟨st,rfl⟩
theorem OV{S A:Type}{body:S→Option (Bj S A)}{f:Nat}{s:S}{a K:A}(h:iter body (f+1) s=some a)(hb:body s=some (.done K)):K=a:=by
 simp only [iter,hb] at h;exact Option.some.inj h
theorem OY{S A:Type}{body:S→Option (Bj S A)}{f:Nat}{s s':S}{a:A}(h:iter body (f+1) s=some a)(hb:body s=some (.more s')):iter body f s'=some a:=by
 simp only [iter,hb] at h;exact h
abbrev Seg:=List (Nat×Obj)
def Ak(E H:LH)(S:List Seg):St:=mk E H S.flatten
def As(E H:LH)(S:List Seg):Prop:=Nd E H S.flatten
theorem Nd.mem{E H:LH}:∀{B:List (Nat×Obj)} {b:Nat} {o:Obj},Nd E H B→(b,o)∈B→∃i:Nat,B[i]? =some (b,o):=fun _ h=>List.mem_iff_getElem?.1 h
theorem Nd.iff{E H:LH}:∀{B:List (Nat×Obj)},Nd E H B↔(B.map (·.1)).Nodup∧∀p∈B,E p.1=none∧H p.1=none
 | []=>by simp [Nd]
 | (b,o)::B=>by
  simp only [Nd,List.map_cons,List.nodup_cons,List.mem_cons,forall_eq_or_imp,Nd.iff (B:=B),List.mem_map,not_exists,not_and]
  constructor
  ·rintro⟨K,O,U,V,W⟩;exact⟨⟨U,V⟩,⟨K,O⟩,W⟩
  ·rintro⟨⟨U,V⟩,⟨K,O⟩,W⟩;exact⟨K,O,U,V,W⟩
theorem Nd.perm{E H:LH}{B B':List (Nat×Obj)}(h:Nd E H B)(K:B.Perm B'):Nd E H B':=by
 rw [Nd.iff] at h ⊢;exact⟨(K.map _).nodup_iff.1 h.1,fun p O=>h.2 p (K.mem_iff.2 O)⟩
theorem JD{E H:LH}{B B':List (Nat×Obj)}(h:Nd E H B)(K:B.Perm B'):A7 B H=A7 B' H:=by
 funext x;by_cases O:∃p∈B,p.1=x
 ·obtain⟨⟨b,o⟩,hm,rfl⟩:=O;obtain⟨i,hi⟩:=h.mem hm;obtain⟨j,U⟩:=(h.perm K).mem (K.mem_iff.1 hm);rw [HQ h hi,HQ (h.perm K) U]
 ·have key:∀{C:List (Nat×Obj)},(∀p∈C,p.1≠x)→A7 C H x=H x:=by
   intro C
   induction C with
   | nil=>intro _;rfl
   | cons p C V=>
    intro hC;obtain⟨c,u⟩:=p;have W:x≠c:=fun e=>hC (c,u) (by simp) e.symm;simp only [A7,if_neg W];exact V fun p K=>hC p (List.mem_cons_of_mem _ K)
  rw [key fun p K e=>O ⟨p,K,e⟩,key fun p Y e=>O ⟨p,K.mem_iff.2 Y,e⟩]
theorem EI{E H:LH}{B B':List (Nat×Obj)}(h:Nd E H B)(K:B.Perm B'):mk E H B=mk E H B':=by unfold mk;rw [JD h K]
theorem D7{S:List Seg}{j:Nat}{seg seg':Seg}(h:S[j]? =some seg):S.flatten.Perm ((S.set j []).flatten++seg)∧(S.set j seg').flatten.Perm ((S.set j []).flatten++seg'):=by
 induction S generalizing j with
 | nil=>simp at h
 | cons x S K=>
  cases j with
  | zero=>
   simp at h;subst h;simp only [List.set_cons_zero,List.flatten_cons,List.nil_append];exact⟨List.perm_append_comm,List.perm_append_comm⟩
  | succ j=>
   simp at h;obtain⟨O,U⟩:=K h;simp only [List.set_cons_succ,List.flatten_cons,List.append_assoc];exact⟨O.append_left x,U.append_left x⟩
theorem Gc{E H:LH}{S:List Seg}{j:Nat}{seg:Seg}(K:As E H S)(h:S[j]? =some seg):Ak E H S=mk E H ((S.set j []).flatten++seg)∧Nd E H ((S.set j []).flatten++seg):=
 ⟨EI K (D7 (seg':=seg) h).1,Nd.perm K (D7 (seg':=seg) h).1⟩
theorem Hr{E H:LH}{S:List Seg}{j:Nat}{seg seg':Seg}(h:S[j]? =some seg)(K:Nd E H ((S.set j []).flatten++seg')):mk E H ((S.set j []).flatten++seg')=Ak E H (S.set j seg')∧As E H (S.set j seg'):=
 ⟨EI K (D7 h).2.symm,Nd.perm K (D7 h).2.symm⟩
theorem GB(S:List Seg)(seg:Seg):(S++ [seg]).flatten=S.flatten++seg:=by simp
theorem Ew{E H:LH}{S:List Seg}{seg:Seg}(K:Nd E H (S.flatten++seg)):mk E H (S.flatten++seg)=Ak E H (S++ [seg])∧As E H (S++ [seg]):=by
 unfold Ak As;rw [GB];exact⟨rfl,K⟩
theorem Ez{E H:LH}{S:List Seg}{j i bk:Nat}{seg:Seg}{o:Obj}(K:As E H S)(O:S[j]? =some seg)(hi:seg[i]? =some (bk,o)):(Ak E H S).get bk=some o:=by
 have hm:(bk,o)∈S.flatten:=List.mem_flatten.2 ⟨seg,List.mem_of_getElem? O,List.mem_of_getElem? hi⟩;obtain⟨V,U⟩:=K.mem hm;exact M4 K U
theorem DF{E H:LH}{S:List Seg}{j bk off:Nat}{c:Ay}{e:TypeId}{f:Nat×Nat}{v:Value}{seg:Seg}(K:As E H S)(O:S[j]? =some ((bk,.cells c e f)::seg))(U:c[off]? =some v):(Ak E H S).cell? ⟨bk,off,none⟩=some v:=by
 unfold St.cell?;rw [Ez (i:=0) K O rfl];exact U
theorem Sq{E H:LH}{S:List Seg}{j bk off:Nat}{c:Ay}{e:TypeId}{f:Nat×Nat}{vs:Lv_}{seg:Seg}(K:As E H S)(O:S[j]? =some ((bk,.cells c e f)::seg))(U:∀i v,vs[i]? =some v→c[off+i]? =some v):∀i v,vs[i]? =some v→(Ak E H S).cell? (Addr.add ⟨bk,off,none⟩ i)=some v:=fun i v hi=>by
 rw [DT rfl];exact DF K O (U i v hi)
def OL{α:Type}(e:TypeId)(p:Rp α)(E:LH)(a:Option Addr)(c:Nat)(seg:Seg)(xs:List α):Prop:=
 ∃wss:List (Lv_),GS e p.n a xs.length c seg wss.flatten∧wss.length=xs.length∧∀(i:Nat) x ws,xs[i]? =some x→wss[i]? =some ws→p.r E ws x
theorem OL.Ai{α:Type}{e:TypeId}{p:Rp α}{E E':LH}{a:Option Addr}{c:Nat}{seg:Seg}{xs:List α}(h:OL e p E a c seg xs)(hle:Le E E'):OL e p E' a c seg xs:=
 let ⟨wss,K,O,U⟩:=h;⟨wss,K,O,fun i x ws V hw=>p.Ai hle (U i x ws V hw)⟩
theorem OL.nil{α:Type}{e:TypeId}{p:Rp α}{E:LH}:OL e p E none 0 [] []:=⟨[],GS.nil,rfl,fun i x ws K=>by simp at K⟩
theorem HP{α:Type}{p:Rp α}{E:LH}{wss:List (Lv_)}{xs:List α}(K:wss.length=xs.length)(h:∀(i:Nat) x ws,xs[i]? =some x→wss[i]? =some ws→p.r E ws x):∀ws∈wss,ws.length=p.n:=fun ws hw=>by
 obtain⟨i,hi⟩:=List.mem_iff_getElem?.1 hw
 have O:i<xs.length:=by rw [← K];exact(List.getElem?_eq_some_iff.1 hi).1
 exact p.len (h i _ ws (List.getElem?_eq_getElem O) hi)
theorem IM{α:Type}{n:Nat}:∀{wss:List (List α)},(∀ws∈wss,ws.length=n)→∀{i:Nat} {ws:List α},wss[i]? =some ws→∀j w,ws[j]? =some w→wss.flatten[i*n+j]? =some w
 | [],_,_,_,h,_,_,_=>by simp at h
 | us::wss,O,0,ws,h,j,w,K=>by
  simp at h;subst h
  have:j<us.length:=(List.getElem?_eq_some_iff.1 K).1
  simp only [List.flatten_cons,Nat.zero_mul,Nat.zero_add]
  rw [List.getElem?_append_left this];exact K
 | us::wss,O,i+1,ws,h,j,w,K=>by
  simp at h
  have hu:us.length=n:=O us (by simp)
  simp only [List.flatten_cons]
  rw [List.getElem?_append_right (by rw [hu,Nat.succ_mul];omega)]
  have e:(i+1)*n+j - us.length=i*n+j:=by rw [hu,Nat.succ_mul];omega
  rw [e];exact IM (fun ws hw=>O ws (List.mem_cons_of_mem _ hw)) h j w K
end Pal
namespace Pal
open Go Go.Conc
section
variable {P:Program}{s:St}{ρ:Operand→Value}{x y z:Operand}{d:Option Tmp}{t u ty e:TypeId}{p:String}{af:Ae_}{g:On_}{v:Value}{kd kd':IntKind}{m m':Int}{a b:Nat}
theorem Ob{a:Nat}:IntKind.u64.wrap (a:Int)=((a % 2 ^ 64:Nat):Int):=by
 simp only [IntKind.wrap,IntKind.bits,IntKind.signed];simp
theorem Ve(K:ρ x= .int .u64 (a:Int))(O:ρ y= .int .u64 (b:Int)):Yl P ⟨d,.binOp .add t x y u,ty,p,af,g⟩ ρ s (.int .u64 (((a+b) % 2 ^ 64:Nat):Int)):=by
 have h:=Yl.add (P:=P) (s:=s) (d:=d) (t:=t) (u:=u) (ty:=ty) (p:=p) (af:=af) (g:=g) K O;rw [show((a:Int)+(b:Int))=((a+b:Nat):Int) by omega,Ob] at h;exact h
theorem LM(K:ρ x= .int .u64 (a:Int))(O:ρ y= .int .u64 (b:Int)):Yl P ⟨d,.binOp .mul t x y u,ty,p,af,g⟩ ρ s (.int .u64 (((a*b) % 2 ^ 64:Nat):Int)):=by
 have h:=Yl.mul (P:=P) (s:=s) (d:=d) (t:=t) (u:=u) (ty:=ty) (p:=p) (af:=af) (g:=g) K O;rw [show((a:Int)*(b:Int))=((a*b:Nat):Int) by rw [Int.natCast_mul],Ob] at h;exact h
theorem LF(K:ρ x= .int .u64 (a:Int))(O:ρ y= .int .u64 (b:Int)):Yl P ⟨d,.binOp .xor t x y u,ty,p,af,g⟩ ρ s (.int .u64 (((a ^^^ b) % 2 ^ 64:Nat):Int)):=by
 have h:=Yl.xor (P:=P) (s:=s) (d:=d) (t:=t) (u:=u) (ty:=ty) (p:=p) (af:=af) (g:=g) K O;have e:(BitVec.ofInt IntKind.u64.bits (a:Int) ^^^ BitVec.ofInt IntKind.u64.bits (b:Int)).toNat=(a ^^^ b) % 2 ^ 64:=by
  rw [Nat.xor_mod_two_pow];rw [BitVec.ofInt_natCast,BitVec.ofInt_natCast];show(BitVec.ofNat 64 a ^^^ BitVec.ofNat 64 b).toNat=_;rw [BitVec.toNat_xor,BitVec.toNat_ofNat,BitVec.toNat_ofNat]
 rw [e,Ob,Nat.mod_mod] at h;exact h
theorem U6(K:ρ x= .int .u64 (a:Int))(O:ρ y= .int .u64 (b:Int))(U:b≠0):Yl P ⟨d,.binOp .rem t x y u,ty,p,af,g⟩ ρ s (.int .u64 ((a % b:Nat):Int)):=by
 have h:=Yl.rem (P:=P) (s:=s) (d:=d) (t:=t) (u:=u) (ty:=ty) (p:=p) (af:=af) (g:=g) K O (by omega);rw [show(a:Int).tmod (b:Int)=((a % b:Nat):Int) from rfl] at h;exact h
theorem I0(c:Nat)(K:ρ x= .int .u64 (a:Int))(O:ρ y= .int .u64 (c:Int))(U:c≤64):Yl P ⟨d,.binOp .shr t x y u,ty,p,af,g⟩ ρ s (.int .u64 ((a>>>c:Nat):Int)):=by
 have h:=Yl.shr (P:=P) (s:=s) (d:=d) (t:=t) (u:=u) (ty:=ty) (p:=p) (af:=af) (g:=g) K O (by omega);have e:min (c:Int).toNat IntKind.u64.bits=c:=by simp [IntKind.bits];omega
 rw [e,Int.fdiv_eq_ediv_of_nonneg _ (Int.pow_nonneg (by decide))] at h;have e2:(a:Int) / 2 ^ c=((a>>>c:Nat):Int):=by rw [Nat.shiftRight_eq_div_pow,Int.natCast_ediv];rfl
 rw [e2] at h;exact h
def CX(m:Int):Nat:=(m % 2 ^ 64).toNat
def KF(a:Nat):Int:=IntKind.i64.wrap (a:Int)
theorem Yl.CX(ht:P.underlying t=some (.int .i64))(hu:P.underlying u=some (.int .u64))(K:ρ x=iV m):Yl P ⟨d,.convert t u x,ty,p,af,g⟩ ρ s (.int .u64 ((CX m:Nat):Int)):=by
 have h:=D8 (P:=P) (s:=s) (d:=d) (ty:=ty) (p:=p) (af:=af) (g:=g) ht hu K
 have e:IntKind.u64.wrap m=((Pal.CX m:Nat):Int):=by
  unfold Pal.CX;simp only [IntKind.wrap,IntKind.bits,IntKind.signed];simp;omega
 rw [e] at h;exact h
theorem VW(ht:P.underlying t=some (.int .u64))(hu:P.underlying u=some (.int .i64))(K:ρ x= .int .u64 (a:Int)):Yl P ⟨d,.convert t u x,ty,p,af,g⟩ ρ s (iV (KF a)):=
 D8 (P:=P) (s:=s) (d:=d) (ty:=ty) (p:=p) (af:=af) (g:=g) ht hu K
theorem UW{r:Int}(K:ρ x=iV m)(O:ρ y=iV m')(h:Au (m+m')=some r):Yl P ⟨d,.binOp .add t x y u,ty,p,af,g⟩ ρ s (iV r):=by
 obtain⟨rfl,hb⟩:=JI h;exact Uu K O hb
theorem Du{r:Int}(K:ρ x=iV m)(O:ρ y=iV m')(h:Au (m - m')=some r):Yl P ⟨d,.binOp .sub t x y u,ty,p,af,g⟩ ρ s (iV r):=by
 obtain⟨rfl,hb⟩:=JI h;exact UL K O hb
theorem Ip{r:Int}(K:ρ x=iV m)(O:ρ y=iV m')(h:Au (m*m')=some r):Yl P ⟨d,.binOp .mul t x y u,ty,p,af,g⟩ ρ s (iV r):=by
 obtain⟨rfl,hb⟩:=JI h;exact Vo K O hb
theorem Iq{q:Prop} [Decidable q] (K:ρ x= .bool (decide q)):Yl P ⟨d,.unOp .not t x,ty,p,af,g⟩ ρ s (.bool (decide (¬q))):=by
 have h:=Yl.not (P:=P) (s:=s) (d:=d) (t:=t) (ty:=ty) (p:=p) (af:=af) (g:=g) K;simpa using h
theorem Tu{K:Array (Nat×Operand)}:execOp ρ ⟨d,.build t K,ty,p,af,g⟩=(do pure (Next.value (← Instr.build t (K.map fun(j,x)=>(j,ρ x))))):=by
 simp only [execOp]
theorem Yl.build{z:Value}{O:Array Field}{K:Array (Nat×Operand)}{vs:List (Nat×Value)}{places:Array (Nat×Nat)}{cells:Ay}(W:zeroOf P t=some z)(ht:P.underlying t=some (.struct O))(Y:O.toList.mapM (fun f=>(Bs P f.type).map fun n=>(f.offset,n))=some places.toList)
  (Z:K.toList.map (fun(j,x)=>(j,ρ x))=vs) (aa:Instr.fill (places[·]?) z.cells vs=some cells):Yl P ⟨d,.build t K,ty,p,af,g⟩ ρ s (.agg cells):=by
 refine FE Tu ?_;unfold Instr.build;refine AF (x:=zeroValue t) _ (FU W ?_);refine AF _ _ (Dh ht ?_);simp only;have key:∀(l:List Field) (acc:List (Nat×Nat)) {Q:List (Nat×Nat)→St→Prop} {X:Halt→St→Prop} (K:List (Nat×Nat)),l.mapM (fun f=>(Bs P f.type).map fun n=>(f.offset,n))=some K→Q (acc.reverse++K) s→lp P (List.mapM.loop (m:=Sem) (fun f=>do pure (f.offset,← Go.sizeOf f.type)) l acc) s Q X:=by
  intro l
  induction l with
  | nil=>
   intro acc Q X K h k;simp at h;subst h;simp only [List.append_nil] at k;exact k
  | cons f l ab=>
   intro acc Q X K h k;simp only [List.mapM_cons,bind] at h;cases U:Bs P f.type with
   | none=>rw [U] at h;simp at h
   | some n=>
    rw [U] at h;simp only [Option.map_some,Option.bind_some] at h;obtain⟨ae,ah,V⟩:=bind_some h;simp at V;subst V;have:=ab ((f.offset,n)::acc) (Q:=Q) (X:=X) ae ah (by simpa using k);simp only [List.mapM.loop];exact AF _ _ (AF (x:=Go.sizeOf f.type) _ (EG U this))
 have e:(K.map fun(j,x)=>(j,ρ x)).toList=vs:=by rw [← Z,Array.toList_map]
 refine AF _ _ ?_;rw [Array.mapM_eq_mapM_toList];refine AF (x:=List.mapM.loop (m:=Sem) (fun f=>do pure (f.offset,← Go.sizeOf f.type)) O.toList []) (f:=fun r=>pure r.toArray) (key O.toList [] places.toList Y ?_)
 simp only [List.reverse_nil,List.nil_append,lp,pure];rw [e,aa];exact⟨rfl,rfl⟩
end
end Pal
namespace Pal
open Go Go.Conc
section
variable {P:Program}{J:Judge P}{Q:Gs_}{b:Frame}{n:Nat}{ds:Ld_}{ops:Ao_}{k:Li_}{cs:Lf_}{L:Env}{s:St}{E E' H:LH}{S:List Seg}
variable {d:Option Tmp}{x y:Operand}{t u ty e:TypeId}{p:String}{af:Ae_}{g:On_}{v:Value}{i:Nat}{rest:List Nat}{kd:IntKind}
theorem JS.box(O:ops[i]? =some ⟨d,.box e x,ty,p,af,g⟩)(hw:A8 L ops ⟨d,.box e x,ty,p,af,g⟩=some true)(U:CL b n ⟨d,.box e x,ty,p,af,g⟩=true)(V:As E H S)(W:ev L x=some v)
  (h:∀r,As E H (S++ [[(r,.cells v.cells e (0,0))]])→JL J Q b n (AB L d (.pointer (some ⟨r,0,none⟩))) ds (.inRegion ops rest::k) cs (Ak E H (S++ [[(r,.cells v.cells e (0,0))]]))):
  JL J Q b n L ds (.inRegion ops (i::rest)::k) cs (Ak E H S):=
 JL.box O hw U V W fun r K=>by rw [(Ew K).1];exact h r (Ew K).2
theorem JS.alloc{z:Value}(O:ops[i]? =some ⟨d,.alloc e,ty,p,af,g⟩)(hw:A8 L ops ⟨d,.alloc e,ty,p,af,g⟩=some true)(U:CL b n ⟨d,.alloc e,ty,p,af,g⟩=true)(V:As E H S)(W:zeroOf P e=some z)
  (h:∀r,As E H (S++ [[(r,.cells z.cells e (0,0))]])→JL J Q b n (AB L d (.pointer (some ⟨r,0,none⟩))) ds (.inRegion ops rest::k) cs (Ak E H (S++ [[(r,.cells z.cells e (0,0))]]))):
  JL J Q b n L ds (.inRegion ops (i::rest)::k) cs (Ak E H S):=
 JL.alloc O hw U V W fun r K=>by rw [(Ew K).1];exact h r (Ew K).2
theorem JS.store{bk off:Nat}{c:Ay}(j:Nat)(U:ops[i]? =some ⟨d,.store t x y,ty,p,af,g⟩)(hw:A8 L ops ⟨d,.store t x y,ty,p,af,g⟩=some true)(V:CL b n ⟨d,.store t x y,ty,p,af,g⟩=true)(W:As E H S)
  (Y:ev L x=some (.pointer (some ⟨bk,off,none⟩))) (Z:ev L y=some v) (aa:Bs P t=some v.cells.size) (ab:∀u∈v.cells.toList,CK u=true) (K:S[j]? =some [(bk,.cells c e (0,0))]) (hle:off+v.cells.size≤c.size)
  (h:As E H (S.set j [(bk,.cells (Ba c off v.cells.toList) e (0,0))])→JL J Q b n (AB L d undef) ds (.inRegion ops rest::k) cs (Ak E H (S.set j [(bk,.cells (Ba c off v.cells.toList) e (0,0))]))):
  JL J Q b n L ds (.inRegion ops (i::rest)::k) cs (Ak E H S):=by
 obtain⟨ae,ah⟩:=Gc W K;rw [ae];refine JL.store (S.set j []).flatten.length U hw V ah Y Z aa ab (c:=c) (e:=e) (by simp) hle fun O=>?_;have ai:((S.set j []).flatten++ [(bk,Obj.cells c e (0,0))]).set (S.set j []).flatten.length (bk,.cells (Ba c off v.cells.toList) e (0,0))=(S.set j []).flatten++ [(bk,.cells (Ba c off v.cells.toList) e (0,0))]:=HS _ _ _ _;rw [ai] at O ⊢;obtain⟨aj,ak⟩:=Hr K O;rw [aj];exact h ak
theorem JS.drop{todo:Li_}{seg:Seg}(j:Nat)(V:As E H S)(K:S[j]? =some seg)(h:As E H (S.set j [])→JL J Q b n L ds todo cs (Ak E H (S.set j []))):JL J Q b n L ds todo cs (Ak E H S):=by
 obtain⟨W,O⟩:=Gc V K;rw [W];have Y:Nd E H ((S.set j []).flatten++ []):=by rw [List.append_nil];exact HK.Nd.left O
 obtain⟨U,Z⟩:=Hr (seg':= []) K Y;refine JL.drop (S.set j []).flatten (fun q aa=>List.mem_iff_getElem?.1 (List.mem_append_left _ aa)) O ?_;have ab:(S.set j []).flatten++ []=(S.set j []).flatten:=List.append_nil _;rw [ab] at U;rw [U];exact h Z
theorem C4{todo:Li_}{bk:Nat}{c:Ay}{f:Nat×Nat}(j:Nat)(O:As E H S)(U:S[j]? =some [(bk,.cells c e f)])
  (h:∀E',Le E E'→At E' bk 0 c.toList→As E' H (S.set j [])→JL J Q b n L ds todo cs (Ak E' H (S.set j []))):JL J Q b n L ds todo cs (Ak E H S):=by
 obtain⟨V,W⟩:=Gc O U;rw [V];have Y:((S.set j []).flatten++ [(bk,Obj.cells c e f)])[(S.set j []).flatten.length]? =some (bk,Obj.cells c e f):=by simp
 refine JL.freeze (S.set j []).flatten.length W Y fun E' hle Z K=>?_;have aa:((S.set j []).flatten++ [(bk,Obj.cells c e f)]).eraseIdx (S.set j []).flatten.length=(S.set j []).flatten:=by rw [List.eraseIdx_append_of_length_le (Nat.le_refl _)];simp
 rw [aa] at K ⊢;exact h E' hle ⟨_,_,_,Z,fun i w hi=>by simpa using hi⟩ K
theorem Cf{α:Type}{pp:Rp α}{todo:Li_}{a:Option Addr}{c:Nat}{seg:Seg}{xs:List α}(j:Nat)(U:OL e pp E a c seg xs)(ab:As E H S)(ae:S[j]? =some seg)
  (h:∀E',Le E E'→An pp E' a c xs→As E' H (S.set j [])→JL J Q b n L ds todo cs (Ak E' H (S.set j []))):JL J Q b n L ds todo cs (Ak E H S):=by
 obtain⟨wss,U,Y,Z⟩:=U;have ah:∀ad:Addr,a=some ad→ad.spot=none:=fun ad K=>by
  rcases U with⟨O,_⟩ | ⟨bk,f,O,_⟩
  ·rw [O] at K;cases K
  ·rw [O] at K;cases K;rfl
 obtain⟨O,ai⟩:=Gc ab ae;rw [O];refine Sc U ai fun E' hle aj ak=>h E' hle ?_ ak;obtain⟨al,am,V,an,au,W⟩:=aj;obtain⟨rfl,-,rfl⟩:a=al∧xs.length=xs.length∧c=am:=by
  simp only [Value.slice.injEq] at V;exact⟨V.1,rfl,V.2.2⟩
 refine⟨an,?_⟩;rcases W with W | ⟨bk,off,f,ao,fr,ap,g2,aq⟩
 ·exact .inl ⟨List.eq_nil_of_length_eq_zero W,fun ad K=> .inl (ah ad K)⟩
 ·refine .inr ⟨bk,off,ap,fun i x aa=>?_⟩;have ar:i<wss.length:=by rw [Y];exact(List.getElem?_eq_some_iff.1 aa).1
  have hw:=List.getElem?_eq_getElem ar;refine⟨wss[i],pp.Ai hle (Z i x _ aa hw),f,ao,fr,g2,fun m w hm=>?_⟩;rw [Nat.add_assoc];exact aq _ w (IM (HP Y Z) hw m w hm)
theorem Sj{α:Type}{pp:Rp α}{wss:List (Lv_)}{xs:List α}{x:α}{ws:Lv_}(O:wss.length=xs.length)(h:∀(i:Nat) x ws,xs[i]? =some x→wss[i]? =some ws→pp.r E ws x)(U:pp.r E ws x):
  ∀(i:Nat) y us,(xs++ [x])[i]? =some y→(wss++ [ws])[i]? =some us→pp.r E us y:=by
 intro i y us K hu;rcases Nat.lt_or_ge i xs.length with hi | hi
 ·rw [List.getElem?_append_left hi] at K;rw [List.getElem?_append_left (by omega)] at hu;exact h i y us K hu
 ·rw [List.getElem?_append_right hi] at K;rw [List.getElem?_append_right (by omega),O] at hu;cases hm:i - xs.length with
  | zero=>rw [hm] at K hu;simp at K hu;subst K hu;exact U
  | succ m=>rw [hm] at K;simp at K
theorem OT{α:Type}{pp:Rp α}{t1 t2:TypeId}{U c:Nat}{a:Option Addr}{seg:Seg}{xs:List α}{xv:α}{ab:Nat}{d1:Tmp}{ats:Array TypeId}{V:TypeId}{W:String}{Y:Ae_}{g':On_}{z:Value}(j:Nat)
  (ai:ops[i]? =some ⟨some d1,.buildSlice t2 1 #[(0,y)],V,W,Y,g'⟩) (hw:A8 L ops ⟨some d1,.buildSlice t2 1 #[(0,y)],V,W,Y,g'⟩=some true) (aj:CL b n ⟨some d1,.buildSlice t2 1 #[(0,y)],V,W,Y,g'⟩=true)
  (ak:ops[ab]? =some ⟨d,.call ⟨.builtin .append,#[x,.tmp d1],ats⟩,ty,p,af,g⟩) (al:∀w,A8 (AB L (some d1) w) ops ⟨d,.call ⟨.builtin .append,#[x,.tmp d1],ats⟩,ty,p,af,g⟩=some true) (am:CL b n ⟨d,.call ⟨.builtin .append,#[x,.tmp d1],ats⟩,ty,p,af,g⟩=true)
  (an:∀w,ev (AB L (some d1) w) x=some (.slice a xs.length c)) (ao:ev L y=some v) (ap:ats[0]? =some t) (aq:ats[1]? =some t1) (ht:P.underlying t=some (.slice e)) (ar:P.underlying t1=some (.slice e)) (au:P.underlying t2=some (.slice e)) (av:Bs P e=some pp.n) (hb:Ed P e=some U) (aw:zeroOf P e=some z) (ay:z.cells.size=pp.n)
  (az:0<U) (aA:U≤64) (aB:0<pp.n) (aC:pp.n≤64) (aD:xs.length+1≤2 ^ 40) (Z:OL e pp E a c seg xs) (aa:pp.r E v.cells.toList xv) (aE:As E H S) (ae:S[j]? =some seg)
  (h:∀w K O seg',OL e pp E K O seg' (xs++ [xv])→As E H (S.set j seg')→JL J Q b n (AB (AB L (some d1) w) d (.slice K (xs++ [xv]).length O)) ds (.inRegion ops rest::k) cs (Ak E H (S.set j seg'))):
  JL J Q b n L ds (.inRegion ops (i::ab::rest)::k) cs (Ak E H S):=by
 obtain⟨wss,Z,ah,aF⟩:=Z;obtain⟨aG,aH⟩:=Gc aE ae;rw [aG];have aI:v.cells.size=pp.n:=by simpa using pp.len aa
 refine Sz ai hw aj ak al am an ao ap aq ht ar au av hb aw ay az aA aI aB aC aD (pp.one aa) Z aH fun w K O aJ aK aL=>?_;obtain⟨aM,aN⟩:=Hr ae aL;rw [aM];have hlen:(xs++ [xv]).length=xs.length+1:=by simp
 have:=h w K O aJ ⟨wss++ [v.cells.toList],by rw [hlen,List.flatten_append];simpa using aK,by simp [ah],Sj ah aF aa⟩ aN;rw [hlen] at this;exact this
theorem Vh{α:Type}{pp:Rp α}{a:Option Addr}{c:Nat}{xs:List α}{xv:α}{m:Int}(O:An pp E a c xs)(hm:ix xs m=some xv)
  (U:ops[i]? =some ⟨d,.indexAddr t x y,ty,p,af,g⟩) (hw:A8 L ops ⟨d,.indexAddr t x y,ty,p,af,g⟩=some true) (V:CL b n ⟨d,.indexAddr t x y,ty,p,af,g⟩=true)
  (W:ev L x=some (.slice a xs.length c)) (Y:ev L y=some (.int kd m)) (ht:P.underlying t=some (.slice e)) (Z:Bs P e=some pp.n)
  (h:∀bk o ws,pp.r E ws xv→At E bk o ws→JL J Q b n (AB L d (.pointer (some ⟨bk,o,none⟩))) ds (.inRegion ops rest::k) cs (Ak E H S)):
  JL J Q b n L ds (.inRegion ops (i::rest)::k) cs (Ak E H S):=by
 obtain⟨m,rfl,hm⟩:=G7 hm;have aa:m<xs.length:=(List.getElem?_eq_some_iff.1 hm).1;obtain⟨ai,⟨rfl,_⟩ | ⟨bk,off,rfl,ab⟩⟩:=O
 ·simp at aa
 obtain⟨ws,ae,ah⟩:=ab m xv hm;refine A1 (v:= .pointer (some ⟨bk,off+m*pp.n,none⟩)) U hw V (fun ρ K=>?_) (h bk _ ws ae ah);have:=Ll (P:=P) (s:=Ak E H S) (d:=d) (ty:=ty) (p:=p) (af:=af) (g:=g) ht Z (K x _ W) (K y _ Y) ⟨by omega,by omega⟩;rw [DT rfl] at this;simpa using this
theorem At.Rj{bk o j:Nat}{ws:Lv_}{w:Value}(h:At E bk o ws)(K:ws[j]? =some w):(Ak E H S).cell? ⟨bk,o+j,none⟩=some w:=h.cell K
theorem At.VZ{bk o:Nat}{ws:Lv_}(h:At E bk o ws):∀j v,ws[j]? =some v→(Ak E H S).cell? (Addr.add ⟨bk,o,none⟩ j)=some v:=h.cells
theorem Bu{todo:Li_}(I:Env→St→Prop){c:Code}(K:∀L s,I L s→JL J Q b n L ds todo cs s)(h:(∀L s,I L s→JL J Q b n L ds todo cs s)→JL J Q b n L ds (.code c::todo) cs s):JL J Q b n L ds (.code c::todo) cs s:=h K
theorem FG{K:List Nat}{todo:Li_}(l:List Nat)(I:Env→St→Prop)(O:∀L s,I L s→JL J Q b n L ds (.inRegion ops l::todo) cs s)(h:(∀L s,I L s→JL J Q b n L ds (.inRegion ops l::todo) cs s)→JL J Q b n L ds (.inRegion ops K::todo) cs s):JL J Q b n L ds (.inRegion ops K::todo) cs s:=h O
theorem Pm{K A:Type}{c:Code}{body:K→Option (Bj K A)}{f:Nat}{O:K}{a:A}(U:iter body f O=some a)(I:Env→St→K→Prop)(W:I L s O)
  (round:∀L s x,I L s x→(∀V,body x=some (.done V)→V=a)→(∃st,body x=some st)→(∀L' s' x',I L' s' x'→body x=some (.more x')→JL J Q b n L' ds (.inLoop c::k) cs s')→JL J Q b n L ds (.code c:: .inLoop c::k) cs s):
  JL J Q b n L ds (.code (.loop c)::k) cs s:=by
 refine IN ?_
 induction f generalizing L s O with
 | zero=>cases U
 | succ f Y=>
  refine round L s O W (fun V h=>OV U h) (O7 U) fun L' s' x' Z hb=>JL.again (Y (OY U hb) Z)
def AR(J:Judge P)(f:FuncId)(args:Lv_)(E:LH)(B:Seg)(R:Value→LH→Seg→Prop):Prop:=
 ∀H,Nd E H B→DN J f args.toArray (mk E H B) (fun v s'=>∃E' B',Le E E'∧R v E' B'∧Nd E' H B'∧s'=mk E' H B')
theorem AR.enter{f:FuncId}{fn:Func}{c:Code}{vs:Lv_}{B:Seg}{R:Value→LH→Seg→Prop}(O:P.funcs[f]? =some fn)(hb:fn.body=some c)(U:vs.length≤fn.ntmps)
  (h:∀(Q:Gs_) (K:Frame) (cs:Lf_) (H:LH),As E H [B]→(∀v E' S' B',Le E E'→S'.flatten=B'→R v E' B'→As E' H S'→J.ok Q (G (K.finish v) cs) (Ak E' H S'))→JL J Q (base f) fn.ntmps (Fs 0 vs) [] [.code c] (K::cs) (Ak E H [B])):AR J f vs E B R:=fun H V=>
 DN.enter O hb U fun Q K cs W=>by
  have Y:mk E H B=Ak E H [B]:=by unfold Ak;simp
  rw [Y];exact h Q K cs H (by unfold As;simpa using V) fun v E' S' B' hle Z aa ab=>by
   subst Z;exact W v _ ⟨E',S'.flatten,hle,aa,ab,rfl⟩
theorem AR.Ai{f:FuncId}{vs:Lv_}{B:Seg}{R K:Value→LH→Seg→Prop}(h:AR J f vs E B R)(U:∀v E' B',Le E E'→R v E' B'→K v E' B'):AR J f vs E B K:=fun H V=>
 (h H V).Ai fun v s' ⟨E',B',O,W,Y,Z⟩=>⟨E',B',O,U v E' B' O W,Y,Z⟩
theorem FF{H:LH}:∀{A B:List (Nat×Obj)},A7 (A++B) H=A7 A (A7 B H)
 | [],_=>rfl
 | (c,o)::A,B=>by
  funext x
  simp only [List.cons_append,A7]
  split
  ·rfl
  ·rw [FF]
theorem JE{H:LH}{x:Nat}:∀{B:List (Nat×Obj)},(∀p∈B,p.1≠x)→A7 B H x=H x
 | [],_=>rfl
 | (c,u)::B,K=>by
  have O:x≠c:=fun e=>K (c,u) (by simp) e.symm
  simp only [A7,if_neg O]
  exact JE fun p U=>K p (List.mem_cons_of_mem _ U)
theorem Nd.front{A B:List (Nat×Obj)}(h:Nd E H (A++B)):Nd E (A7 B H) A:=by
 rw [Nd.iff] at h ⊢;obtain⟨K,U⟩:=h;rw [List.map_append,List.nodup_append] at K;refine⟨K.1,fun q O=>⟨(U q (List.mem_append_left _ O)).1,?_⟩⟩;rw [JE fun r V e=>K.2.2 q.1 (List.mem_map_of_mem O) r.1 (List.mem_map_of_mem V) e.symm];exact(U q (List.mem_append_left _ O)).2
theorem Nd.glue{A B:List (Nat×Obj)}(h:Nd E (A7 B H) A)(U:Nd E H B):Nd E H (A++B):=by
 have V:=U;rw [Nd.iff] at h U ⊢;rw [List.map_append,List.nodup_append];have key:∀q∈A,∀r∈B,q.1≠r.1:=fun q K r O e=>by
  have:=(h.2 q K).2;rw [e] at this;obtain⟨i,hi⟩:=V.mem (b:=r.1) (o:=r.2) O;rw [HQ V hi] at this;cases this
 refine⟨⟨h.1,U.1,fun x W y Y e=>?_⟩,fun q K=>?_⟩
 ·obtain⟨q,K,rfl⟩:=List.mem_map.1 W;obtain⟨r,O,rfl⟩:=List.mem_map.1 Y;exact key q K r O e
 ·rcases List.mem_append.1 K with K | K
  ·refine⟨(h.2 q K).1,?_⟩;have:=(h.2 q K).2
   rwa [JE fun r O e=>key q K r O e.symm] at this
  ·exact U.2 q K
theorem Nf{f:FuncId}{args:Array Operand}{ats:Array TypeId}{vs:Lv_}{seg:Seg}{R:Value→LH→Seg→Prop}(j:Nat)
  (Z:AR J f vs E seg R) (aa:ops[i]? =some ⟨d,.call ⟨.value (.func f),args,ats⟩,ty,p,af,g⟩) (hw:A8 L ops ⟨d,.call ⟨.value (.func f),args,ats⟩,ty,p,af,g⟩=some true) (ab:((b.kind != .early)&&Bt n d)=true) (hb:DG P f=true)
  (ae:evs L args.toList=some vs) (K:As E H S) (O:S[j]? =some seg) (ah:∀v E' seg',Le E E'→R v E' seg'→As E' H (S.set j seg')→JL J Q b n (AB L d v) ds (.inRegion ops rest::k) cs (Ak E' H (S.set j seg'))):
  JL J Q b n L ds (.inRegion ops (i::rest)::k) cs (Ak E H S):=by
 have U:S.flatten.Perm (seg++(S.set j []).flatten):=(D7 (seg':=seg) O).1.trans List.perm_append_comm;have V:Nd E H (seg++(S.set j []).flatten):=Nd.perm K U;have ai:Ak E H S=mk E (A7 (S.set j []).flatten H) seg:=by
  rw [show Ak E H S=mk E H S.flatten from rfl,EI K U];unfold mk;rw [FF]
 rw [ai];refine TS aa hw ab hb ae (Z _ (Nd.front V)) ?_;rintro v s' ⟨E',B',hle,aj,ak,rfl⟩;have e2:mk E' (A7 (S.set j []).flatten H) B'=mk E' H (B'++(S.set j []).flatten):=by unfold mk;rw [FF]
 have al:Nd E H (S.set j []).flatten:=by
  have:=V;rw [Nd.iff] at this ⊢;rw [List.map_append,List.nodup_append] at this;exact⟨this.1.2.1,fun q am=>this.2 q (List.mem_append_right _ am)⟩
 refine Qh rfl fun⟨w,an⟩=>?_;have ao:Nd E' H (S.set j []).flatten:=al.grow fun x ap=>by
  have aq:=an.d x ap;have ar:A7 B' (A7 (S.set j []).flatten H) x=none:=aq;exact(Gy ar).1
 have W:Nd E' H (B'++(S.set j []).flatten):=Nd.glue ak ao;rw [e2];have Y:(B'++(S.set j []).flatten).Perm (S.set j B').flatten:=List.perm_append_comm.trans (D7 O).2.symm;rw [EI W Y];exact ah v E' B' hle aj (Nd.perm W Y)
theorem JS.call{f:FuncId}{args:Array Operand}{ats:Array TypeId}{vs:Lv_}{R:Value→LH→Seg→Prop}
  (U:AR J f vs E [] R) (V:ops[i]? =some ⟨d,.call ⟨.value (.func f),args,ats⟩,ty,p,af,g⟩) (hw:A8 L ops ⟨d,.call ⟨.value (.func f),args,ats⟩,ty,p,af,g⟩=some true) (W:((b.kind != .early)&&Bt n d)=true) (hb:DG P f=true)
  (Y:evs L args.toList=some vs) (K:As E H S) (Z:∀v E' seg',Le E E'→R v E' seg'→As E' H (S++ [seg'])→JL J Q b n (AB L d v) ds (.inRegion ops rest::k) cs (Ak E' H (S++ [seg']))):
  JL J Q b n L ds (.inRegion ops (i::rest)::k) cs (Ak E H S):=by
 have aa:Ak E H S=Ak E H (S++ [[]]):=by unfold Ak;simp
 rw [aa];refine Nf S.length U V hw W hb Y (by unfold As at K ⊢;rw [GB,List.append_nil];exact K) (by simp) fun v E' seg' hle ab O=>?_;have e2:(S++ [[]]).set S.length seg'=S++ [seg']:=HS _ _ _ _;rw [e2] at O ⊢;exact Z v E' seg' hle ab O
theorem Ds{todo:Li_}{S':List Seg}(K:S'.flatten=S.flatten)(O:As E H S)(h:As E H S'→JL J Q b n L ds todo cs (Ak E H S')):JL J Q b n L ds todo cs (Ak E H S):=by
 unfold Ak As at*;rw [K] at h;exact h O
end
end Pal
namespace Pal
open Go Go.Conc
def Ld(P:Program)(t:TypeId)(a:Addr)(s:St)(v:Value):Prop:=lp P (loadVar t a) s (fun u s'=>u=v∧s'=s) (fun _ _=>False)
theorem Ld.many{P:Program}{t:TypeId}{a:Addr}{s:St}{vs:Lv_}(ht:Dk P t=some true)(K:Bs P t=some vs.length)(h:∀j v,vs[j]? =some v→s.cell? (a.add j)=some v):Ld P t a s (.agg vs.toArray):=OB ht K h ⟨rfl,rfl⟩
def RV(P:Program)(L:Env)(s:St):List ResultVar→Lv_→Prop
 | [],[]=>True
 | .tmp t::rs,v::vs=>look L t=some v∧RV P L s rs vs
 | .cell a t::rs,v::vs=>(∃ad,look L a=some (.pointer (some ad))∧Ld P t ad s v)∧RV P L s rs vs
 | _,_=>False
def LQ:Lv_→Value
 | [v]=>v
 | vs=> .tuple vs.toArray
theorem SB(vs:Lv_):(if h:vs.toArray.size=1 then vs.toArray[0] else Value.tuple vs.toArray)=LQ vs:=by
 match vs with
 | []=>rfl
 | [v]=>rfl
 | a::b::c=>simp [LQ]
theorem BY.list{P:Program}{f:FuncId}{fn:Func}{n:Nat}{L:Env}{s:St}{rs:List ResultVar}{vs:Lv_}(W:P.funcs[f]? =some fn)(Y:fn.results.toList=rs)(h:RV P L s rs vs):BY P f L n s (LQ vs):=by
 refine⟨fn,W,fun T U=>?_⟩;unfold results;rw [Array.mapM_eq_mapM_toList,Y];have key:∀(rs:List ResultVar) (acc vs:Lv_) {Q:Lv_→St→Prop} {X:Halt→St→Prop},RV P L s rs vs→Q (acc.reverse++vs) s→lp P (List.mapM.loop (m:=Sem) (fun r=>match r with
   | .tmp t=>pure (T.getD t undef)
   | .cell a t=>do loadVar t (← asAddr (T.getD a undef))) rs acc) s Q X:=by
  intro rs
  induction rs with
  | nil=>
   intro acc vs Q X h k;cases vs with
   | nil=>simp only [List.append_nil] at k;exact k
   | cons v vs=>cases h
  | cons r rs V=>
   intro acc vs Q X h k;cases vs with
   | nil=>cases r <;> cases h
   | cons v vs=>
    cases r with
    | tmp t=>
     obtain⟨K,O⟩:=h;have:=U.at_ t v K;simp only [List.mapM.loop];rw [this];exact V (v::acc) vs O (by simpa using k)
    | cell a t=>
     obtain⟨⟨ad,K,Z⟩,O⟩:=h;have:=U.at_ a _ K;simp only [List.mapM.loop];rw [this];refine AF _ _ (Di _ (show lp P (loadVar t ad) s _ _ from Z) ?_ (fun _ _ h=>h.elim));rintro u s' ⟨rfl,rfl⟩;exact V (u::acc) vs O (by simpa using k)
 refine AF _ _ (AF (x:=List.mapM.loop (m:=Sem) _ rs []) (f:=fun r=>pure r.toArray) ?_);refine key rs [] vs h ?_;simp only [List.reverse_nil,List.nil_append,lp,pure];exact⟨SB vs,trivial⟩
section
variable {P:Program}{J:Judge P}{Q:Gs_}{g:Goroutine}{E H:LH}{S:List Seg}
theorem Io{seg:Seg}(j:Nat)(W:As E H S)(U:S[j]? =some seg)(h:As E H (S.set j [])→J.ok Q g (Ak E H (S.set j []))):J.ok Q g (Ak E H S):=by
 obtain⟨Y,K⟩:=Gc W U;have Z:Nd E H ((S.set j []).flatten++ []):=by rw [List.append_nil];exact HK.Nd.left K
 obtain⟨ah,aa⟩:=Hr (seg':= []) U Z;refine J.ghost (s₀:=Ak E H (S.set j [])) ⟨fun _ _ h=>h,fun x o ab=>?_,fun _ _ h=> .inl h,rfl⟩ (h aa);have V:A7 (S.set j []).flatten H x=some o:=ab;show(Ak E H S).H x=some o;rw [Y];show A7 ((S.set j []).flatten++seg) H x=some o;rw [show A7 ((S.set j []).flatten++seg) H=A7 (seg++(S.set j []).flatten) H from JD K List.perm_append_comm,FF];by_cases hm:∃p∈seg,p.1=x
 ·exfalso;obtain⟨p,O,e⟩:=hm;have ae:=Nd.front (Nd.perm K List.perm_append_comm);have:=((Nd.iff.1 ae).2 p O).2;rw [e,V] at this;cases this
 ·rw [JE fun p O e=>hm ⟨p,O,e⟩];exact V
end
section
variable {P:Program}{J:Judge P}{Q:Gs_}{b:Frame}{n:Nat}{ds:Ld_}{ops:Ao_}{k:Li_}{cs:Lf_}{L:Env}{s:St}{E E' H:LH}{S:List Seg}
variable {d:Option Tmp}{x y:Operand}{t u ty e:TypeId}{p:String}{af:Ae_}{g:On_}{v:Value}{i:Nat}{rest:List Nat}{kd:IntKind}
theorem OZ{ρ:Operand→Value}{len:Nat}{K:Array (Nat×Operand)}:execOp ρ ⟨d,.buildSlice t len K,ty,p,af,g⟩=(do pure (Next.value (← Instr.buildSlice t len (K.map fun(j,x)=>(j,ρ x))))):=by
 simp only [execOp]
theorem Sw(v:Ay)(off:Nat)(c:Ay):v.zipIdx.foldl (fun cs (x,j)=>cs.setIfInBounds (off+j) x) c=Ba c off v.toList:=by
 rw [← Array.foldl_toList,Array.toList_zipIdx];have key:∀(l:Lv_) (st:Nat) (c:Ay),List.foldl (fun cs (p:Value×Nat)=>cs.setIfInBounds (off+p.2) p.1) c (l.zipIdx st)=Ba c (off+st) l:=by
  intro l
  induction l with
  | nil=>intro st c;rfl
  | cons x l K=>intro st c;simp only [List.zipIdx_cons,List.foldl_cons,Ba];rw [K];rfl
 exact key v.toList 0 c
def Jc(place:Nat→Option (Nat×Nat))(cells:Ay):List (Nat×Value)→Option (Ay)
 | []=>some cells
 | (i,v)::rest=>match place i with
  | none=>none
  | some (off,size)=>if v.cells.size=size∧off+v.cells.size≤cells.size then Jc place (Ba cells off v.cells.toList) rest else none
theorem fill_eq{place:Nat→Option (Nat×Nat)}:∀{vs:List (Nat×Value)} {cells:Ay},Instr.fill place cells vs=Jc place cells vs
 | [],_=>rfl
 | (i,v)::rest,cells=>by
  simp only [Instr.fill,Jc]
  cases place i with
  | none=>rfl
  | some q=>
   obtain⟨off,size⟩:=q
   simp only
   by_cases h:v.cells.size=size∧off+v.cells.size≤cells.size
   ·rw [if_pos h,if_neg (by simp only [Bool.or_eq_true,decide_eq_true_eq,ne_eq];omega),fill_eq,Sw]
   ·rw [if_neg h,if_pos (by simp only [Bool.or_eq_true,decide_eq_true_eq,ne_eq];omega)]
theorem PC{n:Nat}:∀(vs:Lv_) (st:Nat) (cells:Ay),(∀v∈vs,v.cells.size=n)→cells.size=(st+vs.length)*n→
  ∃O,Jc (fun i=>some (i*n,n)) cells ((vs.zipIdx st).map fun q=>(q.2,q.1))=some O∧O.toList=cells.toList.take (st*n)++(vs.map (·.cells.toList)).flatten
 | [],st,cells,_,hs=>⟨cells,rfl,by simp only [List.length_nil,Nat.add_zero] at hs;simp [← hs,List.take_of_length_le]⟩
 | v::vs,st,cells,U,hs=>by
  have K:=U v (by simp)
  have hle:st*n+n≤cells.size:=by
   rw [hs,List.length_cons];have:(st+1)*n≤(st+(vs.length+1))*n:=Nat.mul_le_mul_right _ (by omega);rw [Nat.succ_mul] at this;exact this
  obtain⟨V,W,Y⟩:=PC vs (st+1) (Ba cells (st*n) v.cells.toList) (fun u hu=>U u (List.mem_cons_of_mem _ hu)) (by rw [M1,hs,List.length_cons];congr 1;omega);refine⟨V,?_,?_⟩
  ·simp only [List.zipIdx_cons,List.map_cons,Jc];rw [if_pos ⟨K,by omega⟩];exact W
  ·rw [Y,Nat.succ_mul];have:=Ou cells (st*n) v.cells.toList (by simp [K];omega);rw [show v.cells.toList.length=n by simp [K]] at this;rw [this];simp
def H4{α:Type}(pp:Rp α)(E:LH):List α→Lv_→Prop
 | [],[]=>True
 | x::xs,v::vs=>pp.r E v.cells.toList x∧H4 pp E xs vs
 | _,_=>False
theorem H4.at{E:LH}{α:Type}{pp:Rp α}:∀{xs:List α} {vs:Lv_},H4 pp E xs vs→∀(i:Nat) x v,xs[i]? =some x→vs[i]? =some v→pp.r E v.cells.toList x
 | [],_,_,_,_,_,h,_=>by simp at h
 | _::_,[],h,_,_,_,_,_=>h.elim
 | x::xs,v::vs,h,0,y,u,K,hu=>by simp at K hu;subst K hu;exact h.1
 | x::xs,v::vs,h,i+1,y,u,K,hu=>H4.at h.2 i y u (by simpa using K) (by simpa using hu)
theorem NR{E0:LH}{ρ:Operand→Value}{K:Next→St→Prop}(ak:Ej L ρ){α:Type}{pp:Rp α}{len:Nat}{W:Array (Nat×Operand)}(vs:Lv_){z:Value}(xs:List α)
  (ht:P.underlying t=some (.slice e)) (al:Bs P e=some pp.n) (am:zeroOf P e=some z) (an:decide (0<len*pp.n∧len*pp.n≤2 ^ 24)=true)
  (ao:W.toList.mapM (fun q=>(ev L q.2).map fun v=>(q.1,v))=some ((vs.zipIdx 0).map fun q=>(q.2,q.1)))
  (U:vs.length=len) (V:xs.length=len) (ap:H4 pp E0 xs vs) (aq:As E H S)
  (h:∀r seg,OL e pp E0 (some ⟨r,0,none⟩) len seg xs→As E H (S++ [seg])→K (.value (.slice (some ⟨r,0,none⟩) xs.length len)) (Ak E H (S++ [seg]))):
  lp P (execOp ρ ⟨d,.buildSlice t len W,ty,p,af,g⟩) (Ak E H S) K (fun _ _=>False):=by
 have ab:=ap.at;have ar:(W.map fun(j,x)=>(j,ρ x)).toList=(vs.zipIdx 0).map fun q=>(q.2,q.1):=by
  have key:∀(l:List (Nat×Operand)) (vs:List (Nat×Value)),l.mapM (fun q=>(ev L q.2).map fun v=>(q.1,v))=some vs→l.map (fun(j,x)=>(j,ρ x))=vs:=by
   intro l
   induction l with
   | nil=>intro vs h;simp at h;subst h;rfl
   | cons q l Y=>
    intro vs h;simp only [List.mapM_cons,bind] at h;cases Z:ev L q.2 with
    | none=>rw [Z] at h;simp at h
    | some w=>
     rw [Z] at h;simp only [Option.map_some,Option.bind_some] at h;obtain⟨au,av,ae⟩:=bind_some h;simp at ae;subst ae;simp [Y au av,ak _ _ Z]
  rw [Array.toList_map];exact key _ _ ao
 have ah:∀v∈vs,v.cells.size=pp.n:=fun v O=>by
  obtain⟨i,hi⟩:=List.mem_iff_getElem?.1 O;have aw:i<xs.length:=by rw [V,← U];exact(List.getElem?_eq_some_iff.1 hi).1
  simpa using pp.len (ab i _ v (List.getElem?_eq_getElem aw) hi)
 rw [OZ];refine AF _ _ ?_;unfold Instr.buildSlice;refine AF _ _ (Dh ht ?_);refine AF _ _ (EG al ?_);have aA:=of_decide_eq_true an;rw [if_neg (by omega),if_neg (by omega)];refine AF (x:=zeroValue e) _ (FU am ?_);rw [GY,ar];obtain⟨cells,ay,aa⟩:=PC vs 0 ((Array.range (len*pp.n)).map (z.cells[· % z.cells.size]!)) ah (by simp [U]);simp only [fill_eq,ay];simp only [Nat.zero_mul,List.take_zero,List.nil_append] at aa;refine AF _ _ (G1 aq fun r ai=>?_);rw [(Ew ai).1];have aj:cells.size=len*pp.n:=by
  have:cells.toList.length=len*pp.n:=by
   rw [aa];have:∀(vs:Lv_),(∀v∈vs,v.cells.size=pp.n)→(vs.map (·.cells.toList)).flatten.length=vs.length*pp.n:=by
    intro vs
    induction vs with
    | nil=>intro _;simp
    | cons v vs Y=>intro h;rw [List.map_cons,List.flatten_cons,List.length_append,Y fun w hw=>h w (List.mem_cons_of_mem _ hw),List.length_cons,Nat.succ_mul,Nat.add_comm];simp [h v (by simp)]
   rw [this vs ah,U]
  simpa using this
 have:=h r [(r,.cells cells e (0,0))] ⟨vs.map (·.cells.toList),.inr ⟨r,cells,rfl,rfl,aj,by omega,by rw [← aa,List.take_of_length_le (by simp [aj,V])]⟩,by simp [U,V],fun i x ws az hw=>by
  rw [List.getElem?_map] at hw
  cases O:vs[i]? with
  | none=>rw [O] at hw;cases hw
  | some v=>rw [O] at hw;cases hw;exact ab i x v az O⟩ (Ew ai).2
 rw [V] at this;exact this
theorem JS.lit{α:Type}{pp:Rp α}{len:Nat}{K:Array (Nat×Operand)}(vs:Lv_){z:Value}(xs:List α)
  (O:ops[i]? =some ⟨d,.buildSlice t len K,ty,p,af,g⟩) (hw:A8 L ops ⟨d,.buildSlice t len K,ty,p,af,g⟩=some true) (U:CL b n ⟨d,.buildSlice t len K,ty,p,af,g⟩=true)
  (ht:P.underlying t=some (.slice e)) (V:Bs P e=some pp.n) (W:zeroOf P e=some z) (Y:decide (0<len*pp.n∧len*pp.n≤2 ^ 24)=true)
  (Z:K.toList.mapM (fun q=>(ev L q.2).map fun v=>(q.1,v))=some ((vs.zipIdx 0).map fun q=>(q.2,q.1)))
  (aa:vs.length=len) (ab:xs.length=len) (ae:H4 pp E xs vs) (ah:As E H S)
  (h:∀r seg,OL e pp E (some ⟨r,0,none⟩) len seg xs→As E H (S++ [seg])→JL J Q b n (AB L d (.slice (some ⟨r,0,none⟩) xs.length len)) ds (.inRegion ops rest::k) cs (Ak E H (S++ [seg]))):
  JL J Q b n L ds (.inRegion ops (i::rest)::k) cs (Ak E H S):=by
 exact JL.op O hw U fun ρ ai=>NR ai vs xs ht V W Y Z aa ab ae ah h
theorem OL.get{α:Type}{pp:Rp α}{a:Option Addr}{c:Nat}{seg:Seg}{xs:List α}{m:Nat}{x:α}(W:OL e pp E a c seg xs)(hm:xs[m]? =some x):
  ∃bk f ws,a=some ⟨bk,0,none⟩∧seg= [(bk,.cells f e (0,0))]∧pp.r E ws x∧(∀j w,ws[j]? =some w→f[m*pp.n+j]? =some w)∧(m+1)*pp.n≤f.size∧
   ∀(x':α) (ws':Lv_),pp.r E ws' x'→OL e pp E a c [(bk,.cells (Ba f (m*pp.n) ws') e (0,0))] (xs.set m x'):=by
 obtain⟨wss,W,ab,Y⟩:=W;have ae:m<xs.length:=(List.getElem?_eq_some_iff.1 hm).1;rcases W with⟨Z,ah,_⟩ | ⟨bk,f,Z,ah,ao,ai,aj⟩
 ·omega
 have hw:wss[m]? =some wss[m]:=List.getElem?_eq_getElem (by omega);have ak:=HP ab Y;have hle:(m+1)*pp.n≤xs.length*pp.n:=Nat.mul_le_mul_right _ ae;have ar:xs.length*pp.n≤c*pp.n:=Nat.mul_le_mul_right _ ai;refine⟨bk,f,wss[m],Z,ah,Y m x _ hm hw,fun j w K=>?_,by omega,fun x' ws' al=>?_⟩
 ·have:=IM ak hw j w K;rw [aj,List.getElem?_take] at this;split at this
  ·simpa using this
  ·cases this
 ·have am:ws'.length=pp.n:=pp.len al;refine⟨wss.set m ws',.inr ⟨bk,_,Z,rfl,by rw [M1];exact ao,by simpa using ai,?_⟩,by simpa using ab,fun i y us V hu=>?_⟩
  ·simp only [List.length_set];have key:∀(wss:List (Lv_)) (m:Nat) (hm:m<wss.length),(∀ws∈wss,ws.length=pp.n)→∀j,(wss.set m ws').flatten[j]? =if m*pp.n≤j∧j<(m+1)*pp.n then ws'[j - m*pp.n]? else wss.flatten[j]? :=by
    intro wss
    induction wss with
    | nil=>intro m hm;simp at hm
    | cons us wss aa=>
     intro m hm an j;have hu:us.length=pp.n:=an us (by simp);cases m with
     | zero=>
      simp only [List.set_cons_zero,List.flatten_cons,Nat.zero_mul,Nat.zero_le,true_and,Nat.zero_add,Nat.one_mul,Nat.sub_zero];split
      ·rename_i K;rw [List.getElem?_append_left (by omega)]
      ·rename_i K;rw [List.getElem?_append_right (by omega),List.getElem?_append_right (by omega),am,hu]
     | succ m=>
      simp only [List.set_cons_succ,List.flatten_cons];have O:(m+1)*pp.n=m*pp.n+pp.n:=Nat.succ_mul _ _;have e2:(m+1+1)*pp.n=(m+1)*pp.n+pp.n:=Nat.succ_mul _ _;rcases Nat.lt_or_ge j us.length with K | K
      ·rw [List.getElem?_append_left K,List.getElem?_append_left K,if_neg (by omega)]
      ·rw [List.getElem?_append_right K,List.getElem?_append_right K,aa m (by simpa using hm) (fun ws ap=>an ws (List.mem_cons_of_mem _ ap))];by_cases U:m*pp.n≤j - us.length∧j - us.length<(m+1)*pp.n
       ·rw [if_pos U,if_pos (by omega)];congr 1;omega
       ·rw [if_neg U,if_neg (by omega)]
   have aq:∀(vs:Lv_) (c:Ay) (off:Nat),off+vs.length≤c.size→∀j,(Ba c off vs)[j]? =if off≤j∧j<off+vs.length then vs[j - off]? else c[j]? :=by
    intro vs
    induction vs with
    | nil=>intro c off _ j;simp [Ba];omega
    | cons w vs aa=>
     intro c off U j;simp only [Ba,List.length_cons] at*;rw [aa _ _ (by simp;omega)];by_cases O:j=off
     ·subst O;rw [if_neg (by omega),if_pos (by omega),Nat.sub_self,List.getElem?_cons_zero,Array.getElem?_setIfInBounds_self_of_lt (by omega)]
     ·by_cases e2:off+1≤j∧j<off+1+vs.length
      ·rw [if_pos e2,if_pos (by omega)];have:j - off=(j - (off+1))+1:=by omega
       rw [this];simp
      ·rw [if_neg e2,if_neg (by omega),Array.getElem?_setIfInBounds_ne (by omega)]
   apply List.ext_getElem?;intro j;have O:(m+1)*pp.n=m*pp.n+pp.n:=Nat.succ_mul _ _;have t1:(Ba f (m*pp.n) ws').toList[j]? =(Ba f (m*pp.n) ws')[j]? :=Array.getElem?_toList;have t2:f.toList[j]? =f[j]? :=Array.getElem?_toList;rw [key wss m (by omega) ak,List.getElem?_take,t1,aq ws' f (m*pp.n) (by omega),aj,List.getElem?_take,t2,am];by_cases U:m*pp.n≤j∧j<(m+1)*pp.n
   ·rw [if_pos U,if_pos (by omega),if_pos (by omega)]
   ·rw [if_neg U,if_neg (show ¬(m*pp.n≤j∧j<m*pp.n+pp.n) by omega)]
  ·rw [List.getElem?_set] at V hu;by_cases O:m=i
   ·subst O;rw [if_pos rfl,if_pos ae] at V;rw [if_pos rfl,if_pos (by omega)] at hu;cases V;cases hu;exact al
   ·rw [if_neg O] at hu V;exact Y i y us V hu
theorem Ir{α:Type}{pp:Rp α}{a:Option Addr}{c:Nat}{seg:Seg}{xs:List α}{xv:α}{m:Int}(j:Nat)(O:OL e pp E a c seg xs)(hm:ix xs m=some xv)(U:S[j]? =some seg)
  (V:ops[i]? =some ⟨d,.indexAddr t x y,ty,p,af,g⟩) (hw:A8 L ops ⟨d,.indexAddr t x y,ty,p,af,g⟩=some true) (W:CL b n ⟨d,.indexAddr t x y,ty,p,af,g⟩=true)
  (Y:ev L x=some (.slice a xs.length c)) (Z:ev L y=some (.int kd m)) (ht:P.underlying t=some (.slice e)) (aa:Bs P e=some pp.n)
  (h:∀bk o f ws,S[j]? =some [(bk,.cells f e (0,0))]→pp.r E ws xv→(∀j w,ws[j]? =some w→f[o+j]? =some w)→o+pp.n≤f.size→(∀(x':α) (ws':Lv_),pp.r E ws' x'→OL e pp E a c [(bk,.cells (Ba f o ws') e (0,0))] (xs.set m.toNat x'))→o=m.toNat*pp.n→a=some ⟨bk,0,none⟩→
   JL J Q b n (AB L d (.pointer (some ⟨bk,o,none⟩))) ds (.inRegion ops rest::k) cs (Ak E H S)):
  JL J Q b n L ds (.inRegion ops (i::rest)::k) cs (Ak E H S):=by
 obtain⟨m,rfl,hm⟩:=G7 hm;have al:m<xs.length:=(List.getElem?_eq_some_iff.1 hm).1;obtain⟨bk,f,ws,rfl,rfl,ab,ae,ah,ai⟩:=OL.get O hm;have aj:(m+1)*pp.n=m*pp.n+pp.n:=Nat.succ_mul _ _;have ak:m*pp.n+pp.n≤f.size:=by rw [← aj];exact ah
 refine A1 (v:= .pointer (some ⟨bk,m*pp.n,none⟩)) V hw W (fun ρ K=>?_) (h bk (m*pp.n) f ws U ab ae ak (by simpa using ai) (by simp) rfl);have:=Ll (P:=P) (s:=Ak E H S) (d:=d) (ty:=ty) (p:=p) (af:=af) (g:=g) ht aa (K x _ Y) (K y _ Z) ⟨by omega,by omega⟩;rw [DT rfl] at this;simpa using this
end
end Pal
namespace Pal
open Go Go.Conc
section
variable {P:Program}{J:Judge P}{Q:Gs_}{b:Frame}{n:Nat}{ds:Ld_}{ops:Ao_}{k:Li_}{cs:Lf_}{L:Env}{s:St}{E E' H:LH}{S:List Seg}
variable {d:Option Tmp}{x y:Operand}{t u ty e:TypeId}{p:String}{af:Ae_}{g:On_}{v:Value}{i:Nat}{rest:List Nat}{kd:IntKind}
theorem JS.perm{todo:Li_}{S':List Seg}(K:S.flatten.Perm S'.flatten)(O:As E H S)(h:As E H S'→JL J Q b n L ds todo cs (Ak E H S')):JL J Q b n L ds todo cs (Ak E H S):=by
 have U:As E H S':=Nd.perm O K;rw [show Ak E H S=Ak E H S' from EI O K];exact h U
theorem ET{todo:Li_}{A B:Seg}(j:Nat)(K:S[j]? =some (A++B))(O:As E H S)(h:As E H (S.set j A++ [B])→JL J Q b n L ds todo cs (Ak E H (S.set j A++ [B]))):JL J Q b n L ds todo cs (Ak E H S):=by
 refine JS.perm ?_ O h;have U:=(D7 (seg':=A) K).1;have V:=(D7 (seg':=A) K).2;rw [GB];refine U.trans ?_;have W:=V.symm.append_right B
 rwa [List.append_assoc] at W
theorem JS.swap{todo:Li_}{A B:Seg}(j l:Nat)(O:S[j]? =some A)(U:S[l]? =some B)(W:(j==l)=false)(Y:As E H S)(h:As E H ((S.set j B).set l A)→JL J Q b n L ds todo cs (Ak E H ((S.set j B).set l A))):JL J Q b n L ds todo cs (Ak E H S):=by
 have K:j≠l:=by simpa using W
 refine JS.perm ?_ Y h;have Z:=(D7 (seg':=B) O).1;have aa:(S.set j [])[l]? =some B:=by rw [List.getElem?_set_ne K];exact U
 have ab:=(D7 (seg':=A) aa).1;have ae:((S.set j B).set l A)[l]? =some A:=by
  have:l<(S.set j B).length:=by rw [List.length_set];exact(List.getElem?_eq_some_iff.1 U).1
  rw [List.getElem?_set,if_pos rfl,if_pos this]
 have V:=(D7 (seg':=A) ae).1;rw [List.set_set] at V;have ah:((S.set j B).set l [])[j]? =some B:=by
  have:j<S.length:=(List.getElem?_eq_some_iff.1 O).1;rw [List.getElem?_set_ne (Ne.symm K)];simp [this]
 have c2:=(D7 (seg':=B) ah).1;have ai:(((S.set j B).set l []).set j [])=((S.set j []).set l []):=by
  rw [List.set_comm _ _ K,List.set_set,List.set_comm _ _ K.symm]
 rw [ai] at c2;exact Z.trans ((ab.append_right A).trans ((c2.symm.append_right A).trans V.symm))
theorem FV{bk off:Nat}{c:Ay}{f:Nat×Nat}{vs:Lv_}{seg:Seg}(j:Nat)(K:As E H S)(O:S[j]? =some ((bk,.cells c e f)::seg))(U:(c.toList.drop off).take vs.length=vs):∀i v,vs[i]? =some v→(Ak E H S).cell? (Addr.add ⟨bk,off,none⟩ i)=some v:=
 Sq K O fun i v hi=>by
  have V:i<vs.length:=(List.getElem?_eq_some_iff.1 hi).1
  rw [← U,List.getElem?_take_of_lt V,List.getElem?_drop,Array.getElem?_toList] at hi
  exact hi
theorem Lm(vs:Lv_):∀(c:Ay) (off:Nat),off+vs.length≤c.size→∀j,(Ba c off vs)[j]? =if off≤j∧j<off+vs.length then vs[j - off]? else c[j]? :=by
 induction vs with
 | nil=>intro c off _ j;simp [Ba];omega
 | cons w vs K=>
  intro c off U j;simp only [Ba,List.length_cons] at*;rw [K _ _ (by simp;omega)];by_cases O:j=off
  ·subst O;rw [if_neg (by omega),if_pos (by omega),Nat.sub_self,List.getElem?_cons_zero,Array.getElem?_setIfInBounds_self_of_lt (by omega)]
  ·by_cases e2:off+1≤j∧j<off+1+vs.length
   ·rw [if_pos e2,if_pos (by omega)];have:j - off=(j - (off+1))+1:=by omega
    rw [this];simp
   ·rw [if_neg e2,if_neg (by omega),Array.getElem?_setIfInBounds_ne (by omega)]
theorem OK{f:Ay}{o m:Nat}{ws us vs:Lv_}(hle:o+ws.length≤f.size)(W:∀j w,ws[j]? =some w→f[o+j]? =some w)(K:vs=ws.take m++us++ws.drop (m+us.length))(hm:m+us.length≤ws.length):Ba f (o+m) us=Ba f o vs:=by
 have Y:vs.length=ws.length:=by subst K;simp;omega
 apply Array.ext_getElem?;intro j;rw [Lm us f (o+m) (by omega),Lm vs f o (by omega),Y];by_cases O:o+m≤j∧j<o+m+us.length
 ·rw [if_pos O,if_pos (by omega)];subst K;rw [List.getElem?_append_left (by simp;omega),List.getElem?_append_right (by simp;omega)];congr 1;simp;omega
 ·rw [if_neg O];by_cases U:o≤j∧j<o+ws.length
  ·rw [if_pos U];have hw:ws[j - o]? =some ws[j - o]:=List.getElem?_eq_getElem (by omega);have:=W _ _ hw;rw [show o+(j - o)=j by omega] at this;rw [this,← hw];subst K;rcases Nat.lt_or_ge (j - o) m with V | V
   ·rw [List.getElem?_append_left (by simp;omega),List.getElem?_append_left (by simp;omega),List.getElem?_take_of_lt V]
   ·rw [List.getElem?_append_right (by simp;omega),List.getElem?_drop];congr 1;simp;omega
  ·rw [if_neg U]
end
end Pal
namespace Pal
open Go Go.Conc
theorem elim_inl{α β K:Type}{f:α→Option K}{g:β→Option K}{x:α}{r:K}(h:Sum.elim f g (.inl x)=some r):f x=some r:=h
theorem elim_inr{α β K:Type}{f:α→Option K}{g:β→Option K}{x:β}{r:K}(h:Sum.elim f g (.inr x)=some r):g x=some r:=h
def room{α:Type}(xs:List α)(x:α):Option (List α):=if xs.length+1≤2 ^ 40 then some (xs++ [x]) else none
theorem SX{α:Type}{xs ys:List α}{x:α}(h:room xs x=some ys):xs.length+1≤2 ^ 40∧ys=xs++ [x]:=by
 unfold room at h;split at h
 ·rename_i hb;exact⟨hb,(Option.some.inj h).symm⟩
 ·cases h
def Mt(a b:Nat):Option Nat:=if b=0 then none else some (a % b)
def IH(a b:Nat):Option Nat:=if a<65536∧b<65536 then some (a ||| b) else none
def Jj(a b:Nat):Option Nat:=if a<65536∧b<65536 then some (a&&& b) else none
section
variable {P:Program}{s:St}{ρ:Operand→Value}{x y z:Operand}{d:Option Tmp}{t u ty e:TypeId}{p:String}{af:Ae_}{g:On_}{v:Value}{kd kd':IntKind}{m m':Int}{a b:Nat}
theorem Ug{r:Nat}(K:ρ x= .int .u64 (a:Int))(O:ρ y= .int .u64 (b:Int))(h:Mt a b=some r):Yl P ⟨d,.binOp .rem t x y u,ty,p,af,g⟩ ρ s (.int .u64 (r:Int)):=by
 unfold Mt at h;split at h
 ·cases h
 ·rename_i U;cases h;exact U6 K O U
theorem JU{r:Nat}(O:ρ x=Ee a)(U:ρ y=Ee b)(h:IH a b=some r):Yl P ⟨d,.binOp .or t x y u,ty,p,af,g⟩ ρ s (Ee r):=by
 unfold IH at h;split at h
 ·rename_i K;cases h;exact Wa O U K.1 K.2
 ·cases h
theorem Na{r:Nat}(O:ρ x=Ee a)(U:ρ y=Ee b)(h:Jj a b=some r):Yl P ⟨d,.binOp .and t x y u,ty,p,af,g⟩ ρ s (Ee r):=by
 unfold Jj at h;split at h
 ·rename_i K;cases h;exact Vq O U K.1 K.2
 ·cases h
theorem Yl.min2{ats:Array TypeId}(K:ρ x=iV m)(O:ρ y=iV m'):Yl P ⟨d,.call ⟨.builtin .min,#[x,y],ats⟩,ty,p,af,g⟩ ρ s (iV (min m m')):=by
 have e:(if m'<m then m' else m)=min m m':=by split <;> omega
 simp [Yl,execOp,lp,pure,bind,Sem.bind,K,O,resolve,invoke,builtin,Builtin.min_,Builtin.min2,e]
theorem Yl.max2{ats:Array TypeId}(K:ρ x=iV m)(O:ρ y=iV m'):Yl P ⟨d,.call ⟨.builtin .max,#[x,y],ats⟩,ty,p,af,g⟩ ρ s (iV (max m m')):=by
 have e:(if m<m' then m' else m)=max m m':=by split <;> omega
 simp [Yl,execOp,lp,pure,bind,Sem.bind,K,O,resolve,invoke,builtin,Builtin.max_,Builtin.max2,e]
end
def Kv(P:Program):List Field→List (Nat×Nat)→Prop
 | f::K,(o,n)::O=>f.offset=o∧Bs P f.type=some n∧Kv P K O
 | [],[]=>True
 | _,_=>False
theorem Kv.mapM{P:Program}:∀{K:List Field} {O:List (Nat×Nat)},Kv P K O→K.mapM (fun f=>(Bs P f.type).map fun n=>(f.offset,n))=some O
 | [],[],_=>rfl
 | [],_::_,h=>h.elim
 | _::_,[],h=>h.elim
 | f::K,(o,n)::O,h=>by
  obtain⟨U,V,W⟩:=h
  simp only [List.mapM_cons,bind,V,Option.map_some,Option.bind_some,Kv.mapM W,U];rfl
theorem Pg{L:Env}{ρ:Operand→Value}(h:Ej L ρ):∀{l:List (Nat×Operand)} {vs:List (Nat×Value)},l.mapM (fun q=>(ev L q.2).map fun v=>(q.1,v))=some vs→l.map (fun(j,x)=>(j,ρ x))=vs
 | [],vs,e=>by simp at e;subst e;rfl
 | q::l,vs,e=>by
  simp only [List.mapM_cons,bind] at e
  cases K:ev L q.2 with
  | none=>rw [K] at e;simp at e
  | some w=>
   rw [K] at e
   simp only [Option.map_some,Option.bind_some] at e
   obtain⟨V,U,O⟩:=bind_some e
   simp at O;subst O
   simp [Pg h U,h _ _ K]
theorem CG{P:Program}{s:St}{ρ:Operand→Value}{L:Env}{d:Option Tmp}{t ty:TypeId}{p:String}{af:Ae_}{g:On_}{z:Value}{K:Array Field}{O:Array (Nat×Operand)}{vs:List (Nat×Value)}{cells:Ay}(places:List (Nat×Nat))(h:Ej L ρ)(U:zeroOf P t=some z)(ht:P.underlying t=some (.struct K))(V:Kv P K.toList places)
  (W:O.toList.mapM (fun q=>(ev L q.2).map fun v=>(q.1,v))=some vs) (Y:Jc (places.toArray[·]?) z.cells vs=some cells):Yl P ⟨d,.build t O,ty,p,af,g⟩ ρ s (.agg cells):=
 Yl.build (places:=places.toArray) U ht (by simpa using V.mapM) (Pg h W) (by rw [fill_eq];exact Y)
theorem OL.again{α:Type}{e:TypeId}{pp:Rp α}{E:LH}{a:Option Addr}{bk c o:Nat}{f:Ay}{xs:List α}{m:Int}{x:α}(O:OL e pp E a c [(bk,.cells f e (0,0))] xs)(hm:ix xs m=some x)(U:o=m.toNat*pp.n):
  ∃ws,pp.r E ws x∧(∀j w,ws[j]? =some w→f[o+j]? =some w)∧o+pp.n≤f.size∧∀(x':α) (ws':Lv_),pp.r E ws' x'→OL e pp E a c [(bk,.cells (Ba f o ws') e (0,0))] (xs.set m.toNat x'):=by
 obtain⟨m,rfl,hm⟩:=G7 hm;obtain⟨ae,ah,ws,ai,K,V,W,Y,Z⟩:=OL.get O hm;simp only [List.cons.injEq,Prod.mk.injEq,Obj.cells.injEq,and_true] at K;obtain⟨rfl,rfl⟩:=K;have aa:(m+1)*pp.n=m*pp.n+pp.n:=Nat.succ_mul _ _;have ab:o=m*pp.n:=by simpa using U
 subst ab;exact⟨ws,V,W,by rw [← aa];exact Y,by simpa using Z⟩
section
variable {P:Program}{J:Judge P}{Q:Gs_}{b:Frame}{n:Nat}{ds:Ld_}{ops:Ao_}{k:Li_}{cs:Lf_}{L:Env}{s:St}{E E' H:LH}{S:List Seg}
variable {d:Option Tmp}{x y:Operand}{t u ty e:TypeId}{p:String}{af:Ae_}{g:On_}{v:Value}{i:Nat}{rest:List Nat}{kd:IntKind}
theorem JS.app{α:Type}{pp:Rp α}{t1 t2:TypeId}{K c:Nat}{a:Option Addr}{seg:Seg}{xs ys:List α}{xv:α}{W:Nat}{d1:Tmp}{ats:Array TypeId}{O:TypeId}{U:String}{V:Ae_}{g':On_}{z:Value}(j:Nat)(aa:room xs xv=some ys)
  (ab:ops[i]? =some ⟨some d1,.buildSlice t2 1 #[(0,y)],O,U,V,g'⟩) (hw:A8 L ops ⟨some d1,.buildSlice t2 1 #[(0,y)],O,U,V,g'⟩=some true) (ae:CL b n ⟨some d1,.buildSlice t2 1 #[(0,y)],O,U,V,g'⟩=true)
  (ah:ops[W]? =some ⟨d,.call ⟨.builtin .append,#[x,.tmp d1],ats⟩,ty,p,af,g⟩) (ai:∀w,A8 (AB L (some d1) w) ops ⟨d,.call ⟨.builtin .append,#[x,.tmp d1],ats⟩,ty,p,af,g⟩=some true) (aj:CL b n ⟨d,.call ⟨.builtin .append,#[x,.tmp d1],ats⟩,ty,p,af,g⟩=true)
  (ak:∀w,ev (AB L (some d1) w) x=some (.slice a xs.length c)) (al:ev L y=some v) (am:ats[0]? =some t) (an:ats[1]? =some t1) (ht:P.underlying t=some (.slice e)) (ao:P.underlying t1=some (.slice e)) (ap:P.underlying t2=some (.slice e)) (aq:Bs P e=some pp.n) (hb:Ed P e=some K) (ar:zeroOf P e=some z) (au:z.cells.size=pp.n)
  (av:0<K) (aw:K≤64) (ay:0<pp.n) (az:pp.n≤64) (aA:OL e pp E a c seg xs) (aB:pp.r E v.cells.toList xv) (aC:As E H S) (aD:S[j]? =some seg)
  (h:∀w Y Z seg',OL e pp E Y Z seg' ys→As E H (S.set j seg')→JL J Q b n (AB (AB L (some d1) w) d (.slice Y ys.length Z)) ds (.inRegion ops rest::k) cs (Ak E H (S.set j seg'))):
  JL J Q b n L ds (.inRegion ops (i::W::rest)::k) cs (Ak E H S):=by
 obtain⟨aE,rfl⟩:=SX aa;exact OT j ab hw ae ah ai aj ak al am an ht ao ap aq hb ar au av aw ay az aE aA aB aC aD h
theorem BR{todo:Li_}{S':List Seg}(K:S=S')(O:As E H S)(h:As E H S'→JL J Q b n L ds todo cs (Ak E H S')):JL J Q b n L ds todo cs (Ak E H S):=by
 subst K;exact h O
end
end Pal
namespace Pal
open Go Go.Conc
theorem DN.Ji{P:Program}{J:Judge P}{f:FuncId}{args:Ay}{s:St}{R:Value→St→Prop}(h:DN J f args s R)(U:∀v s',R v s'→s'.q=false):DN J f args s (fun v s'=>R v s'∧∃w,Fits s' w):=fun Q c cs V=>
 h Q c cs fun v s' K=>by
  by_cases O:∃w,Fits s' w
  ·exact V v s' ⟨K,O⟩
  ·exact J.step ⟨rfl,fun w f=>absurd ⟨w,f⟩ O,fun e=>by have:=U v s' K;subst e;cases this⟩
def AZ(l:List Nat):Nat→Bool:=fun x=>l.contains x
section
variable {P:Program}{J:Judge P}{Q:Gs_}{b:Frame}{n:Nat}{ds:Ld_}{ops:Ao_}{k:Li_}{cs:Lf_}{m fuel:Nat}{D:Nat→Bool}{listed:Array Bool}{L:Env}{s:St}{E E' H:LH}{S:List Seg}
variable {d:Option Tmp}{x y:Operand}{t u ty e:TypeId}{p:String}{af:Ae_}{g:On_}{v:Value}{i:Nat}{kd:IntKind}
def EY(ops:Ao_)(listed:Array Bool)(m i:Nat):Bool:=match ops[i]? with
 | some oi=>decide (i<m)&&Region.noSelect ops&& !Db oi.op&&Ht ops listed i oi&&GI ops listed&&listed.size==ops.size&&(Region.ready .any ops listed).contains i
 | none=>false
theorem TD(m:Nat){id:Nat}(hm:P.follows .mixedOrders=true)(K:(b.kind != .early)=true)
  (ht:Dx ops m=true) (h:Dx ops m=true→AQ J Q b n ds ops k cs m D3 ops.size (Array.replicate ops.size false) L (Ak E H S)):JL J Q b n L ds (.code (.region id ops true)::k) cs (Ak E H S):=
 Pz m D3 rfl hm K (h ht)
theorem O3{oi:Oper}{i:Nat}(hi:ops[i]? =some oi)(K:EY ops listed m i=true):decide (i<m)=true∧Region.noSelect ops=true∧(!Db oi.op)=true∧Ht ops listed i oi=true∧GI ops listed=true∧(listed.size==ops.size)=true∧(Region.ready .any ops listed).contains i=true:=by
 simp only [EY,hi,Bool.and_eq_true] at K;obtain⟨⟨⟨⟨⟨⟨O,U⟩,V⟩,W⟩,Y⟩,Z⟩,aa⟩:=K;exact⟨O,U,V,W,Y,Z,aa⟩
theorem ND{oi:Oper}(i:Nat)(hi:ops[i]? =some oi)(K:Dx ops m=true)(O:EY ops listed m i=true)(U:s.q=false)
  (hw:A8 L ops oi=some true) (V:Bt n oi.dst=true) (W:∀ρ,Ej L ρ→∀s':St,(∀x o,(Bx D s).E x=some o→s'.E x=some o)→Yl P oi ρ s' v)
  (h:AQ J Q b n ds ops k cs m D fuel (A6 listed i) (AB L oi.dst v) s):AQ J Q b n ds ops k cs m D (fuel+1) listed L s:=
 let ⟨Y,Z,aa,ab,ae,ah,ai⟩:=O3 hi O
 Tc hi Y K Z aa ab ae ah ai U hw V (fun ρ aj s' _ hs=>W ρ aj s' hs) h
theorem W3{oi:Oper}(i:Nat)(hi:ops[i]? =some oi)(K:Dx ops m=true)(O:EY ops listed m i=true)(U:s.q=false)
  (hw:A8 L ops oi=some false) (V:Bt n oi.dst=true)
  (h:AQ J Q b n ds ops k cs m D fuel (A6 listed i) (AB L oi.dst undef) s):AQ J Q b n ds ops k cs m D (fuel+1) listed L s:=
 let ⟨W,Y,Z,aa,ab,ae,ah⟩:=O3 hi O
 SR hi W K Y Z aa ab ae ah U hw V h
theorem Wk{α:Type}{pp:Rp α}{a:Option Addr}{c:Nat}{xs:List α}{xv:α}{K:Int}(i:Nat)(V:An pp E a c xs)(O:ix xs K=some xv)
  (W:ops[i]? =some ⟨d,.indexAddr t x y,ty,p,af,g⟩) (Y:Dx ops m=true) (Z:EY ops listed m i=true) (aa:s.q=false)
  (hw:A8 L ops ⟨d,.indexAddr t x y,ty,p,af,g⟩=some true) (ab:Bt n d=true)
  (ae:ev L x=some (.slice a xs.length c)) (ah:ev L y=some (.int kd K)) (ht:P.underlying t=some (.slice e)) (ai:Bs P e=some pp.n)
  (h:∀bk o ws,pp.r E ws xv→At E bk o ws→AQ J Q b n ds ops k cs m D fuel (A6 listed i) (AB L d (.pointer (some ⟨bk,o,none⟩))) s):
  AQ J Q b n ds ops k cs m D (fuel+1) listed L s:=by
 obtain⟨K,rfl,O⟩:=G7 O;have aj:K<xs.length:=(List.getElem?_eq_some_iff.1 O).1;obtain⟨an,⟨rfl,_⟩ | ⟨bk,off,rfl,ak⟩⟩:=V
 ·simp at aj
 obtain⟨ws,al,am⟩:=ak K xv O;refine ND (v:= .pointer (some ⟨bk,off+K*pp.n,none⟩)) i W Y Z aa hw ab (fun ρ U s' _=>?_) (h bk _ ws al am);have:=Ll (P:=P) (s:=s') (d:=d) (ty:=ty) (p:=p) (af:=af) (g:=g) ht ai (U x _ ae) (U y _ ah) ⟨by omega,by omega⟩;rw [DT rfl] at this;simpa using this
theorem JG.call{f:FuncId}{args:Array Operand}{ats:Array TypeId}{vs:Lv_}{R:Value→LH→Seg→Prop}(V:AR J f vs E [] R)(W:Region.ready .any ops listed= [i])
  (Y:ops[i]? =some ⟨d,.call ⟨.value (.func f),args,ats⟩,ty,p,af,g⟩) (Z:Bt n d=true) (hw:A8 L ops ⟨d,.call ⟨.value (.func f),args,ats⟩,ty,p,af,g⟩=some true) (hb:DG P f=true) (aa:evs L args.toList=some vs) (ab:As E H S)
  (ae:∀v E' seg',Le E E'→R v E' seg'→As E' H (S++ [seg'])→AQ J Q b n ds ops k cs m D3 fuel (A6 listed i) (AB L d v) (Ak E' H (S++ [seg']))):
  AQ J Q b n ds ops k cs m D3 (fuel+1) listed L (Ak E H S):=by
 have ah:=DN.Ji (V (A7 S.flatten H) trivial) (by rintro v s' ⟨E',B',_,_,_,rfl⟩;rfl);refine AQ.call rfl W Y Z hw hb aa ah ?_;rintro v ao ⟨⟨E',B',hle,ai,aj,rfl⟩,w,ak⟩;have e2:mk E' (A7 S.flatten H) B'=mk E' H (B'++S.flatten):=by unfold mk;rw [FF]
 have al:Nd E' H S.flatten:=Nd.grow ab fun x K=>by
  have am:=ak.d x K;have an:A7 B' (A7 S.flatten H) x=none:=am;exact(Gy an).1
 have O:Nd E' H (B'++S.flatten):=Nd.glue aj al;have U:(B'++S.flatten).Perm (S++ [B']).flatten:=by rw [GB];exact List.perm_append_comm
 rw [e2,EI O U];exact⟨rfl,fun x o K=>hle x o K,ae v E' B' hle ai (Nd.perm O U)⟩
end
end Pal
namespace Pal
open Go Go.Conc
theorem L5{E H:LH}{S:List Seg}{j bk:Nat}{o:Obj}{seg:Seg}(K:As E H S)(O:S[j]? =some ((bk,o)::seg)):E bk=none:=by
 have hm:(bk,o)∈S.flatten:=List.mem_flatten.2 ⟨_,List.mem_of_getElem? O,by simp⟩;exact((Nd.iff.1 K).2 _ hm).1
end Pal
namespace Pal
open Go Go.Conc
def Ks(a:Nat)(n:Int):Option Nat:=if 0≤n∧n≤16 then some (a>>>n.toNat) else none
def Kg(n:Int):Option Nat:=if 0≤n∧n<16 then some (1<<<n.toNat) else none
def ID{α:Type}(n:Int)(z:α):Option (List α):=if 0≤n∧n≤2 ^ 20 then some (List.replicate n.toNat z) else none
def DC{α:Type}(xs ys:List α):Option (List α):=if xs.length+ys.length≤2 ^ 40 then some (xs++ys) else none
section
variable {P:Program}{s:St}{ρ:Operand→Value}{x y z:Operand}{d:Option Tmp}{t u ty e:TypeId}{p:String}{af:Ae_}{g:On_}{v:Value}{kd kd':IntKind}{m m':Int}{a b:Nat}
theorem U4{r:Nat}(K:ρ x=Ee a)(O:ρ y=iV m)(h:Ks a m=some r):Yl P ⟨d,.binOp .shr t x y u,ty,p,af,g⟩ ρ s (Ee r):=by
 unfold Ks at h;split at h
 ·rename_i U;cases h;refine Ut K (c:=m.toNat) ?_ (by omega);rw [O];congr 1;omega
 ·cases h
theorem UT{r:Nat}(K:ρ x=Ee 1)(O:ρ y=iV m)(h:Kg m=some r):Yl P ⟨d,.binOp .shl t x y u,ty,p,af,g⟩ ρ s (Ee r):=by
 unfold Kg at h;split at h
 ·rename_i U;cases h;refine U9 K (c:=m.toNat) ?_ (by omega);rw [O];congr 1;omega
 ·cases h
end
section
variable {P:Program}{J:Judge P}{Q:Gs_}{b:Frame}{n:Nat}{ds:Ld_}{ops:Ao_}{k:Li_}{cs:Lf_}{L L':Env}{s:St}{E E' H:LH}{S:List Seg}
variable {d:Option Tmp}{x y:Operand}{t u ty e:TypeId}{p:String}{af:Ae_}{g:On_}{v:Value}{i:Nat}{rest:List Nat}{kd:IntKind}
theorem Td{ρ:Operand→Value}:execOp ρ ⟨d,.makeSlice t x y,ty,p,af,g⟩=(do pure (Next.value (← Instr.makeSlice t (ρ x) (ρ y)))):=by
 simp only [execOp]
theorem MU{α:Type}(w:List α):∀m:Nat,((List.replicate m w).flatten).length=m*w.length
 | 0=>by simp
 | m+1=>by rw [List.replicate_succ,List.flatten_cons,List.length_append,MU w m,Nat.succ_mul,Nat.add_comm]
theorem Ul(z:Ay)(O:0<z.size):∀m:Nat,((Array.range (m*z.size)).map (z[· % z.size]!)).toList=(List.replicate m z.toList).flatten:=by
 intro m;apply List.ext_getElem?;intro j;simp only [Array.toList_map,Array.toList_range,List.getElem?_map];by_cases K:j<m*z.size
 ·rw [List.getElem?_range K];have V:j / z.size<m:=(Nat.div_lt_iff_lt_mul O).2 K;have U:j % z.size<z.size:=Nat.mod_lt _ O;have hw:(List.replicate m z.toList)[j / z.size]? =some z.toList:=by simp [V]
  have:=IM (n:=z.size) (wss:=List.replicate m z.toList) (fun ws W=>by rw [List.eq_of_mem_replicate W];simp) hw (j % z.size) z[j % z.size] (by simp [U]);rw [show j / z.size*z.size+j % z.size=j from by rw [Nat.mul_comm];exact Nat.div_add_mod _ _] at this;rw [this];simp [U]
 ·have hlen:((List.replicate m z.toList).flatten).length=m*z.size:=by rw [MU];simp
  rw [List.getElem?_eq_none (by simpa using K),List.getElem?_eq_none (by rw [hlen];omega)];rfl
theorem Nt{α:Type}{pp:Rp α}(O:ops[i]? =some ⟨d,.buildSlice t 0 #[],ty,p,af,g⟩)(hw:A8 L ops ⟨d,.buildSlice t 0 #[],ty,p,af,g⟩=some true)(U:CL b n ⟨d,.buildSlice t 0 #[],ty,p,af,g⟩=true)
  (ht:P.underlying t=some (.slice e)) (V:Bs P e=some pp.n) (W:As E H S)
  (h:∀r seg,OL e pp E (some ⟨r,0,none⟩) 0 seg []→As E H (S++ [seg])→JL J Q b n (AB L d (.slice (some ⟨r,0,none⟩) 0 0)) ds (.inRegion ops rest::k) cs (Ak E H (S++ [seg]))):
  JL J Q b n L ds (.inRegion ops (i::rest)::k) cs (Ak E H S):=by
 refine JL.op O hw U fun ρ Z=>?_;rw [OZ];refine AF _ _ ?_;unfold Instr.buildSlice;refine AF _ _ (Dh ht ?_);refine AF _ _ (EG V ?_);rw [if_neg (by omega),if_pos (by omega)];refine AF (x:=pure #[]) _ ?_;simp only [lp,pure,List.map_toArray,List.map_nil,Instr.fill];refine AF _ _ (G1 W fun r K=>?_);rw [(Ew K).1];exact h r _ ⟨[],.inr ⟨r,_,rfl,rfl,by simp,Nat.le_refl _,by simp⟩,rfl,fun i x ws Y=>by simp at Y⟩ (Ew K).2
theorem An.rows{α:Type}{pp:Rp α}{a:Option Addr}{c:Nat}{xs:List α}(U:An pp E a c xs):∃wss:List (Lv_),wss.length=xs.length∧(∀(i:Nat) x ws,xs[i]? =some x→wss[i]? =some ws→pp.r E ws x)∧
  ((xs= []∧∀ad:Addr,a=some ad→ad.spot=none∨c=0)∨∃bk off,a=some ⟨bk,off,none⟩∧∀(i:Nat) ws,wss[i]? =some ws→At E bk (off+i*pp.n) ws):=by
 obtain⟨Z,U⟩:=U;rcases U with⟨rfl,W⟩ | ⟨bk,off,rfl,Y⟩
 ·exact⟨[],rfl,fun i x ws O=>by simp at O,.inl ⟨rfl,W⟩⟩
 ·have V:∀i:Fin xs.length,∃ws,pp.r E ws xs[i]∧At E bk (off+i*pp.n) ws:=fun i=>Y i xs[i] (List.getElem?_eq_getElem i.2);refine⟨List.ofFn fun i=>Classical.choose (V i),by simp,fun i x ws O hw=>?_,.inr ⟨bk,off,rfl,fun i ws hw=>?_⟩⟩
  ·have K:i<xs.length:=(List.getElem?_eq_some_iff.1 O).1;simp [K] at hw;subst hw;rw [List.getElem?_eq_getElem K] at O;cases O;exact(Classical.choose_spec (V ⟨i,K⟩)).1
  ·have K:i<xs.length:=by have:=(List.getElem?_eq_some_iff.1 hw).1;simpa using this
   simp [K] at hw;subst hw;exact(Classical.choose_spec (V ⟨i,K⟩)).2
theorem Lf{n:Nat}:∀{wss:List (Lv_)},(∀ws∈wss,ws.length=n)→wss.flatten.length=wss.length*n
 | [],_=>by simp
 | ws::wss,h=>by rw [List.flatten_cons,List.length_append,h ws (by simp),Lf fun w hw=>h w (List.mem_cons_of_mem _ hw),List.length_cons,Nat.succ_mul,Nat.add_comm]
theorem MX{n:Nat}:∀{wss:List (Lv_)},(∀ws∈wss,ws.length=n)→∀{j:Nat} {w:Value},wss.flatten[j]? =some w→∃(i m:Nat) (ws:Lv_),wss[i]? =some ws∧ws[m]? =some w∧j=i*n+m
 | [],_,_,_,h=>by simp at h
 | us::wss,O,j,w,h=>by
  have hu:=O us (by simp)
  rw [List.flatten_cons] at h
  rcases Nat.lt_or_ge j us.length with K | K
  ·rw [List.getElem?_append_left K] at h
   exact⟨0,j,us,rfl,h,by simp⟩
  ·rw [List.getElem?_append_right K] at h;obtain⟨i,m,ws,U,V,W⟩:=MX (fun ws hw=>O ws (List.mem_cons_of_mem _ hw)) h;exact⟨i+1,m,ws,by simpa using U,V,by rw [Nat.succ_mul];omega⟩
theorem MZ{α:Type}{pp:Rp α}{wss O:List (Lv_)}{xs ys:List α}(U:wss.length=xs.length)(h:∀(i:Nat) x ws,xs[i]? =some x→wss[i]? =some ws→pp.r E ws x)(V:∀(i:Nat) x ws,ys[i]? =some x→O[i]? =some ws→pp.r E ws x):
  ∀(i:Nat) y us,(xs++ys)[i]? =some y→(wss++O)[i]? =some us→pp.r E us y:=by
 intro i y us K hu;rcases Nat.lt_or_ge i xs.length with hi | hi
 ·rw [List.getElem?_append_left hi] at K;rw [List.getElem?_append_left (by omega)] at hu;exact h i y us K hu
 ·rw [List.getElem?_append_right hi] at K;rw [List.getElem?_append_right (by omega),U] at hu;exact V _ y us K hu
variable {B0:List (Nat×Obj)}
theorem Sp{e t t1:TypeId}{W al l c m:Nat}{a:Option Addr}{blk:List (Nat×Obj)}{xs ys:Lv_}{i:Nat}{rest:List Nat}{d:Option Tmp}{x y:Operand}{ats:Array TypeId}{ty:TypeId}{p:String}{af:Ae_}{g:On_}{z:Value}{ax:Option Addr}{cx:Nat}{B1:List (Nat×Obj)}
  (av:ops[i]? =some ⟨d,.call ⟨.builtin .append,#[x,y],ats⟩,ty,p,af,g⟩) (hw:A8 L ops ⟨d,.call ⟨.builtin .append,#[x,y],ats⟩,ty,p,af,g⟩=some true) (aw:CL b n ⟨d,.call ⟨.builtin .append,#[x,y],ats⟩,ty,p,af,g⟩=true)
  (ay:ev L x=some (.slice a l c)) (az:ev L y=some (.slice ax m cx)) (aA:ats[0]? =some t) (aB:ats[1]? =some t1) (ht:P.underlying t=some (.slice e)) (aC:P.underlying t1=some (.slice e)) (aD:Bs P e=some W) (hb:Ed P e=some al) (aE:zeroOf P e=some z) (aF:z.cells.size=W)
  (aG:0<al) (aH:al≤64) (aI:l+m≤2 ^ 40) (aJ:∀w∈ys,CK w=true) (ai:GS e W a l c blk xs) (am:Nd E H (B0++blk++B1)) (hs:Gh (mk E H (B0++blk++B1)) (.slice ax m cx) W ys)
  (h:∀aq aj an,GS e W aq (l+m) aj an (xs++ys)→Nd E H (B0++an)→JL J Q b n (AB L d (.slice aq (l+m) aj)) ds (.inRegion ops rest::k) cs (mk E H (B0++an))):
  JL J Q b n L ds (.inRegion ops (i::rest)::k) cs (mk E H (B0++blk++B1)):=by
 refine JL.op av hw aw fun ρ ar=>?_;rw [Lb,ar x _ ay,ar y _ az];have aK:Ms (B0++blk++B1) B0.length e W a l c xs:=by
  rcases ai with⟨K,V,aa,ab,Y⟩ | ⟨bk,f,K,V,aa,ab,Y⟩
  ·exact .inl ⟨K,V,aa,Y⟩
  ·refine .inr ⟨bk,f,K,?_,aa,ab,Y⟩;subst V;simp
 have hlen:=ai.length;refine AF _ _ (M8 (pl:=B0.length) aA aB aC ht aD hb aE aF am aK hs aJ aG aI aH ?_ ?_ ?_)
 ·
  intro bk f O ak aQ aR aL ao ap Z;rcases ai with⟨K,_⟩ | ⟨U,f0,K,V,aa,ab,Y⟩
  ·rw [K] at ak;cases ak
  ·subst V;have aM:U=bk:=by rw [K] at ak;simpa using ak
   subst aM;have aN:(B0++ [(U,Obj.cells f0 e (0,0))]++B1).set B0.length (U,.cells O e (0,0))=B0++ [(U,.cells O e (0,0))]++B1:=by
    rw [List.append_assoc,List.append_assoc];exact HS _ _ _ _
   rw [aN] at Z ⊢;have ae:Nd E H (B0++ [(U,.cells O e (0,0))]):=HK.Nd.left Z;refine JL.drop (B0++ [(U,.cells O e (0,0))]) (fun p ah=>?_) Z (h a c _ (.inr ⟨U,O,K,rfl,ao,aL,ap.symm⟩) ae);exact List.mem_iff_getElem?.1 (List.mem_append_left _ ah)
 ·intro au hm;rcases ai with⟨K,V,aa,ab,Y⟩ | ⟨U,f0,K,_⟩
  ·subst hm;have aO:ys= []:=by
    cases ax with
    | none=>exact hs.2
    | some ad=>have:=hs.2.1;simp at this;exact this
   subst V ab Y aO;have ae:Nd E H (B0++ []):=HK.Nd.left am;exact JL.drop (B0++ []) (fun p ah=>List.mem_iff_getElem?.1 (List.mem_append_left _ ah)) am (h none 0 [] (by simpa using GS.nil) ae)
  ·rw [K] at au;cases au
 ·
  intro r O aj aP ao ap Z;have ae:Nd E H (B0++ [(r,.cells O e (0,0))]):=HK.Nd.pick Z;refine JL.drop (B0++ [(r,.cells O e (0,0))]) (fun p ah=>?_) Z (h (some ⟨r,0,none⟩) aj _ (.inr ⟨r,O,rfl,rfl,ao,aP,ap.symm⟩) ae);refine List.mem_iff_getElem?.1 ?_;rcases List.mem_append.1 ah with q | q
  ·simp [q]
  ·exact List.mem_append_right _ q
theorem Ns{α:Type}{pp:Rp α}{t1:TypeId}{aa c cx:Nat}{a ax:Option Addr}{seg:Seg}{xs ys ab:List α}{ats:Array TypeId}{z:Value}(j:Nat)(V:DC xs ys=some ab)
  (ao:ops[i]? =some ⟨d,.call ⟨.builtin .append,#[x,y],ats⟩,ty,p,af,g⟩) (hw:A8 L ops ⟨d,.call ⟨.builtin .append,#[x,y],ats⟩,ty,p,af,g⟩=some true) (ap:CL b n ⟨d,.call ⟨.builtin .append,#[x,y],ats⟩,ty,p,af,g⟩=true)
  (aq:ev L x=some (.slice a xs.length c)) (ar:ev L y=some (.slice ax ys.length cx)) (au:ats[0]? =some t) (av:ats[1]? =some t1) (ht:P.underlying t=some (.slice e)) (aw:P.underlying t1=some (.slice e)) (ay:Bs P e=some pp.n) (hb:Ed P e=some aa) (az:zeroOf P e=some z) (aA:z.cells.size=pp.n)
  (aB:0<aa) (aC:aa≤64) (ae:OL e pp E a c seg xs) (ai:An pp E ax cx ys) (aD:As E H S) (aj:S[j]? =some seg)
  (h:∀W Y seg',OL e pp E W Y seg' ab→As E H (S.set j seg')→JL J Q b n (AB L d (.slice W ab.length Y)) ds (.inRegion ops rest::k) cs (Ak E H (S.set j seg'))):
  JL J Q b n L ds (.inRegion ops (i::rest)::k) cs (Ak E H S):=by
 unfold DC at V;split at V
 rotate_left
 ·cases V
 rename_i aE;cases V;obtain⟨wss,ae,ak,aF⟩:=ae;obtain⟨aG,al⟩:=Gc aD aj;obtain⟨Z,O,ah,U⟩:=ai.rows;have am:=HP O ah;rw [aG];have aH:∀w∈Z.flatten,CK w=true:=fun w hw=>by
  obtain⟨us,aI,hw⟩:=List.mem_flatten.1 hw;obtain⟨q,K⟩:=List.mem_iff_getElem?.1 aI;have aJ:q<ys.length:=by rw [← O];exact(List.getElem?_eq_some_iff.1 K).1
  exact pp.one (ah q _ us (List.getElem?_eq_getElem aJ) K) w hw
 have hlen:(xs++ys).length=xs.length+ys.length:=by simp
 have an:Gh (mk E H ((S.set j []).flatten++seg)) (.slice ax ys.length cx) pp.n Z.flatten:=by
  rcases U with⟨U,aS⟩ | ⟨bk,off,rfl,U⟩
  ·subst U;have:Z= []:=List.eq_nil_of_length_eq_zero O;subst this;cases ax with
   | none=>exact⟨rfl,rfl⟩
   | some ad=>exact⟨.inr rfl,by simp,Nat.zero_le _,fun q w K=>by simp at K⟩
  ·refine⟨.inl rfl,by rw [Lf am,O],ai.1,fun q w K=>?_⟩;obtain⟨q1,m,ws,aK,e2,aL⟩:=MX am K;have:=(U q1 ws aK).cell (H:=H) (B:=(S.set j []).flatten++seg) e2;subst aL;rw [← Nat.add_assoc];exact this
 have aM:(S.set j []).flatten++seg=(S.set j []).flatten++seg++ []:=(List.append_nil _).symm;rw [aM] at al an ⊢;refine Sp ao hw ap aq ar au av ht aw ay hb az aA aB aC aE aH ae al an fun W Y aN aO aP=>?_;obtain⟨aQ,aR⟩:=Hr aj aP;rw [aQ];have:=h W Y aN ⟨wss++Z,by rw [hlen,List.flatten_append];exact aO,by simp [ak,O],MZ ak aF ah⟩ aR;rw [hlen] at this;exact this
end
end Pal
namespace Pal
open Go Go.Conc
section
variable {P:Program}{J:Judge P}{Q:Gs_}{b:Frame}{n:Nat}{ds:Ld_}{ops:Ao_}{k:Li_}{cs:Lf_}{m fuel:Nat}{D:Nat→Bool}{listed:Array Bool}{L L':Env}{s:St}{E E' H:LH}{S:List Seg}
variable {d:Option Tmp}{x y:Operand}{t u ty e:TypeId}{p:String}{af:Ae_}{g:On_}{v:Value}{i:Nat}{rest:List Nat}{kd:IntKind}
theorem DM(h:Sub L' L)(k':AQ J Q b n ds ops k cs m D fuel listed L' s):AQ J Q b n ds ops k cs m D fuel listed L s:=fun T K=>k' T (K.sub h)
theorem FX{K:Nat}{O:Array Bool}(fuel:Nat)(listed:Array Bool)(I:Env→St→Prop)(U:∀L s,I L s→AQ J Q b n ds ops k cs m D fuel listed L s)(h:(∀L s,I L s→AQ J Q b n ds ops k cs m D fuel listed L s)→AQ J Q b n ds ops k cs m D K O L s):AQ J Q b n ds ops k cs m D K O L s:=h U
end
def H6(t:TypeId)(v:Value):Option (Int×Int)→Prop
 | none=>v= .nilIface
 | some (c,a)=>v= .iface t (.agg #[iV c,iV a])
def Jp{α:Type}(p:Rp α)(E:LH)(v:Value):Option α→Prop
 | none=>v= .pointer none
 | some x=>∃bk o us,v= .pointer (some ⟨bk,o,none⟩)∧At E bk o us∧p.r E us x
theorem Jp.Ai{α:Type}{p:Rp α}{E E':LH}{v:Value}{d:Option α}(h:Jp p E v d)(hle:Le E E'):Jp p E' v d:=by
 cases d with
 | none=>exact h
 | some x=>obtain⟨bk,o,us,K,O,U⟩:=h;exact⟨bk,o,us,K,O.Ai hle,p.Ai hle U⟩
theorem At.tail{E:LH}{bk o:Nat}{l ws:Lv_}(h:At E bk o (l++ws)):At E bk (o+l.length) ws:=by
 obtain⟨f,e,fr,K,O⟩:=h;refine⟨f,e,fr,K,fun j w U=>?_⟩;rw [Nat.add_assoc];refine O _ _ ?_;rw [List.getElem?_append_right (by omega)];rw [show l.length+j - l.length=j by omega];exact U
theorem Rw{α:Type}{kk:Nat}{pp:Rp α}{E:LH}{bk o:Nat}{ws:Lv_}{xs:List α}{m:Int}{x:α}(O:(rA kk pp).r E ws xs)(h:At E bk o ws)(hm:ix xs m=some x):∃us,pp.r E us x∧At E bk (o+m.toNat*pp.n) us∧0≤m∧m<kk:=by
 obtain⟨U,wss,rfl,V,K⟩:=O;obtain⟨m,rfl,hm⟩:=G7 hm;have Z:m<xs.length:=(List.getElem?_eq_some_iff.1 hm).1;have hw:wss[m]? =some wss[m]:=List.getElem?_eq_getElem (by omega);refine⟨wss[m],K m x _ hm hw,?_,by omega,by omega⟩;obtain⟨f,e,fr,W,g2⟩:=h;refine⟨f,e,fr,W,fun j w Y=>?_⟩;rw [Nat.add_assoc];exact g2 _ _ (IM (HP (V.trans U.symm) K) hw j w Y)
section
variable {P:Program}{s:St}{ρ:Operand→Value}{x y z:Operand}{d:Option Tmp}{t u ty e:TypeId}{p:String}{af:Ae_}{g:On_}{v v':Value}
theorem O5{ms:Array (String×TypeId)}{tt:TypeId}{o:Option (Int×Int)}{n:Nat}(K:P.underlying t=some (.interface ms))(he:H6 tt v o){Q:Bool→St→Prop}{X:Halt→St→Prop}(k:Q o.isNone s):lp P (Op.equalIn (n+1) t v .nilIface) s Q X:=by
 unfold Op.equalIn;refine AF _ _ (Dh K ?_);cases o with
 | none=>obtain rfl:v= .nilIface:=he;exact k
 | some q=>obtain⟨c,a⟩:=q;obtain rfl:v= .iface tt (.agg #[iV c,iV a]):=he;exact k
theorem Nh{ms:Array (String×TypeId)}{tt:TypeId}{o:Option (Int×Int)}(K:P.underlying t=some (.interface ms))(he:H6 tt v o)(O:ρ x=v)(U:ρ (.const .nilIface)= .nilIface):Yl P ⟨d,.binOp .neq t x (.const .nilIface) u,ty,p,af,g⟩ ρ s (.bool o.isSome):=by
 refine FE (sm:=do eqGuard .neq t x (.const .nilIface) (ρ x) (ρ (.const .nilIface));binOp .neq t (ρ x) (ρ (.const .nilIface))) rfl ?_
 rw [O,U];have V:lp P (eqGuard .neq t x (.const .nilIface) v .nilIface) s (fun _ s'=>s'=s) (fun _ _=>False):=by
  cases o with
  | none=>obtain rfl:v= .nilIface:=he;simp [eqGuard,lp,pure]
  | some q=>obtain⟨c,a⟩:=q;obtain rfl:v= .iface tt (.agg #[iV c,iV a]):=he;simp [eqGuard,lp,pure]
 refine AF _ _ (Di _ V ?_ (fun _ _ h=>h));rintro _ _ rfl;have hb:binOp .neq t v .nilIface=(do pure (.bool (!(← Op.equal t v .nilIface)))):=by
  cases o with
  | none=>obtain rfl:v= .nilIface:=he;rfl
  | some q=>obtain⟨c,a⟩:=q;obtain rfl:v= .iface tt (.agg #[iV c,iV a]):=he;rfl
 rw [hb];refine AF (x:=Op.equal t v .nilIface) _ ?_;unfold Op.equal Op.maxDepth;refine O5 K he ?_;refine⟨?_,rfl⟩;cases o <;> rfl
theorem TP{ms:Array (String×TypeId)}{tt:TypeId}{o:Option (Int×Int)}(K:P.underlying t=some (.interface ms))(he:H6 tt v o)(O:ρ x=v)(U:ρ (.const .nilIface)= .nilIface):Yl P ⟨d,.binOp .eql t x (.const .nilIface) u,ty,p,af,g⟩ ρ s (.bool o.isNone):=by
 refine FE (sm:=do eqGuard .eql t x (.const .nilIface) (ρ x) (ρ (.const .nilIface));binOp .eql t (ρ x) (ρ (.const .nilIface))) rfl ?_
 rw [O,U];have V:lp P (eqGuard .eql t x (.const .nilIface) v .nilIface) s (fun _ s'=>s'=s) (fun _ _=>False):=by
  cases o with
  | none=>obtain rfl:v= .nilIface:=he;simp [eqGuard,lp,pure]
  | some q=>obtain⟨c,a⟩:=q;obtain rfl:v= .iface tt (.agg #[iV c,iV a]):=he;simp [eqGuard,lp,pure]
 refine AF _ _ (Di _ V ?_ (fun _ _ h=>h));rintro _ _ rfl;have hb:binOp .eql t v .nilIface=(do pure (.bool (← Op.equal t v .nilIface))):=by
  cases o with
  | none=>obtain rfl:v= .nilIface:=he;rfl
  | some q=>obtain⟨c,a⟩:=q;obtain rfl:v= .iface tt (.agg #[iV c,iV a]):=he;rfl
 rw [hb];refine AF (x:=Op.equal t v .nilIface) _ ?_;unfold Op.equal Op.maxDepth;refine O5 K he ?_;refine⟨?_,rfl⟩
 rfl
end
end Pal
namespace Pal
open Go Go.Conc
section
variable {P:Program}{J:Judge P}{Q:Gs_}{b:Frame}{n:Nat}{ds:Ld_}{ops:Ao_}{k:Li_}{cs:Lf_}{L:Env}{E H:LH}{S:List Seg}
variable {d:Option Tmp}{x y:Operand}{t u ty e:TypeId}{p:String}{af:Ae_}{g:On_}{i:Nat}{rest:List Nat}{kd:IntKind}
theorem Nq{α:Type}{pp:Rp α}{kk bk o:Nat}{l ws:Lv_}{xs:List α}{xv:α}{m:Int}(O:At E bk o (l++ws))(U:(rA kk pp).r E ws xs)(hm:ix xs m=some xv)
  (V:ops[i]? =some ⟨d,.indexAddr t x y,ty,p,af,g⟩) (hw:A8 L ops ⟨d,.indexAddr t x y,ty,p,af,g⟩=some true) (W:CL b n ⟨d,.indexAddr t x y,ty,p,af,g⟩=true)
  (Y:ev L x=some (.pointer (some ⟨bk,o+l.length,none⟩))) (Z:ev L y=some (.int kd m)) (ht:P.underlying t=some (.array kk e)) (aa:Bs P e=some pp.n)
  (h:∀o' us,pp.r E us xv→At E bk o' us→JL J Q b n (AB L d (.pointer (some ⟨bk,o',none⟩))) ds (.inRegion ops rest::k) cs (Ak E H S)):
  JL J Q b n L ds (.inRegion ops (i::rest)::k) cs (Ak E H S):=by
 obtain⟨us,ab,ae,ah,ai⟩:=Rw U O.tail hm;refine A1 (v:= .pointer (some ⟨bk,o+l.length+m.toNat*pp.n,none⟩)) V hw W (fun ρ K=>?_) (h _ us ab ae);have:=Pc (P:=P) (s:=Ak E H S) (d:=d) (ty:=ty) (p:=p) (af:=af) (g:=g) ht aa (K x _ Y) (K y _ Z) ⟨ah,ai⟩;rw [DT rfl] at this;exact this
end
end Pal
namespace Pal
open Go Go.Conc
section
variable {P:Program}{s:St}{ρ:Operand→Value}{x y z:Operand}{d:Option Tmp}{t u ty e:TypeId}{p:String}{af:Ae_}{g:On_}{v v':Value}
theorem PS{t:TypeId}{cells:Ay}{off:Nat}{v:Value}(ht:Dk P t=some false)(K:cells[off]? =some v){Q:Value→St→Prop}{X:Halt→St→Prop}(k:Q v s):lp P (part t cells off) s Q X:=by
 unfold part;refine AF _ _ (JX ht ?_);simp only [Bool.false_eq_true,if_false,K];exact k
theorem SW{o:BinOp}{c K:Ay}(O:o= .eql∨o= .neq)(U:P.eqGuardType P.depth t=false){Q:Unit→St→Prop}{X:Halt→St→Prop}(k:Q () s):lp P (eqGuard o t x y (.agg c) (.agg K)) s Q X:=by
 rcases O with rfl | rfl <;> (simp [eqGuard,lp,bind,Sem.bind,program,pure,U];exact k)
end
end Pal
namespace Pal
open Go Go.Conc
section
variable {P:Program}(J:Judge P)(Q:Gs_)(b:Frame)(n:Nat)(ds:Ld_)(ops:Ao_)(k:Li_)(cs:Lf_)(m:Nat)(D:Nat→Bool)
def Take(fuel:Nat)(listed:Array Bool)(L:Env)(s:St)(i:Nat):Prop:=
 ∃o,ops[i]? =some o∧(!Db o.op)=true∧Bt n o.dst=true∧A8 L ops o=some true∧∀ρ,Ej L ρ→lp P (execOp ρ o) (Bx D s) (fun nx s'=>match nx with
  | .value v=>AQ J Q b n ds ops k cs m D fuel (A6 listed i) (AB L o.dst v) (Cr D s s')
  | .skip=>AQ J Q b n ds ops k cs m D fuel (A6 listed i) (AB L o.dst undef) (Cr D s s')
  | .enter f args=>∃R,DN J f args (Cr D s s') R∧∀v K,R v K→K.q=false∧(∀x o,(Bx D s).E x=some o→(Bx D K).E x=some o)∧AQ J Q b n ds ops k cs m D fuel (A6 listed i) (AB L o.dst v) K
  | _=>False) (fun _ _=>False)
end
section
variable {P:Program}{J:Judge P}{Q:Gs_}{b:Frame}{n:Nat}{ds:Ld_}{ops:Ao_}{k:Li_}{cs:Lf_}{m fuel:Nat}{D:Nat→Bool}{listed:Array Bool}{L:Env}{s:St}{E E' H:LH}{S:List Seg}
variable {d:Option Tmp}{x y:Operand}{t u ty e:TypeId}{p:String}{af:Ae_}{g:On_}{v:Value}{i:Nat}{kd:IntKind}
theorem MY(U:s.q=false){l:List Nat}(K:Region.ready .any ops listed=l)(V:l≠ [])(h:∀i∈l,Take J Q b n ds ops k cs m D fuel listed L s i):AQ J Q b n ds ops k cs m D (fuel+1) listed L s:=
 PE U (by rw [K];exact V) fun i hi o O=>by
  rw [K] at hi
  obtain⟨o',W,Y,Z,aa,ab⟩:=h i hi
  obtain rfl:o'=o:=by rw [W] at O;exact Option.some.inj O
  exact⟨Y,Z,true,aa,fun e=>(by cases e),fun _=>ab⟩
theorem JG.one(K:s.q=false)(O:Region.ready .any ops listed= [i])(h:Take J Q b n ds ops k cs m D fuel listed L s i):AQ J Q b n ds ops k cs m D (fuel+1) listed L s:=
 MY K O (by simp) (by simpa using h)
theorem Ix{i j:Nat}(K:s.q=false)(O:Region.ready .any ops listed= [i,j])(hi:Take J Q b n ds ops k cs m D fuel listed L s i)(U:Take J Q b n ds ops k cs m D fuel listed L s j):AQ J Q b n ds ops k cs m D (fuel+1) listed L s:=
 MY K O (by simp) (by intro q K;simp at K;rcases K with rfl | rfl <;> assumption)
def plus(E:LH)(bk:Nat)(o:Obj):LH:=fun x=>if x=bk then Option.some o else E x
theorem Ux{jp bk:Nat}{o:Obj}(Y:As E H S)(Z:S[jp]? =Option.some [(bk,o)]):Bx (AZ [bk]) (Ak E H S)=Ak (plus E bk o) H (S.set jp [])∧As (plus E bk o) H (S.set jp []):=by
 obtain⟨aa,V⟩:=Gc Y Z;have W:=Nd.iff.1 V;have aj:E bk=Option.none:=(W.2 (bk,o) (by simp)).1;have ab:H bk=Option.none:=(W.2 (bk,o) (by simp)).2;have hX:∀q∈(S.set jp []).flatten,q.1≠bk:=fun q O e=>by
  have:=W.1;rw [List.map_append,List.nodup_append] at this;exact this.2.2 q.1 (List.mem_map_of_mem O) bk (by simp) e
 have ae:(Ak E H S).get bk=Option.some o:=Ez (i:=0) Y Z rfl;have ah:∀x,x≠bk→A7 ((S.set jp []).flatten++ [(bk,o)]) H x=A7 (S.set jp []).flatten H x:=fun x K=>by
  rw [show A7 ((S.set jp []).flatten++ [(bk,o)]) H=A7 ([(bk,o)]++(S.set jp []).flatten) H from JD V List.perm_append_comm];simp [A7,K]
 refine⟨?_,?_⟩
 ·unfold Bx;have ai:(fun x=>if AZ [bk] x=true then(Ak E H S).get x else(Ak E H S).E x)=plus E bk o:=by
   funext x;unfold plus;by_cases K:x=bk
   ·subst K;simp [AZ,ae]
   ·simp [AZ,K];rfl
  have e2:(fun x=>if AZ [bk] x=true then Option.none else(Ak E H S).H x)=A7 (S.set jp []).flatten H:=by
   funext x;by_cases K:x=bk
   ·subst K;simp [AZ];rw [JE hX,ab]
   ·simp only [AZ,List.contains_cons,List.contains_nil,Bool.or_false,beq_iff_eq,if_neg K];rw [aa];exact ah x K
  rw [ai,e2];rfl
 ·have U:Nd E H (S.set jp []).flatten:=HK.Nd.left V;show Nd _ H (S.set jp []).flatten;rw [Nd.iff] at U ⊢;exact⟨U.1,fun q O=>⟨by unfold plus;rw [if_neg (hX q O)];exact(U.2 q O).1,(U.2 q O).2⟩⟩
theorem Ti{jp bk:Nat}{o:Obj}{S':List Seg}(ae:As E H S)(ah:S[jp]? =Option.some [(bk,o)])(ai:As (plus E bk o) H S')(V:S'[jp]? =Option.some []):Cr (AZ [bk]) (Ak E H S) (Ak (plus E bk o) H S')=Ak E H (S'.set jp [(bk,o)])∧As E H (S'.set jp [(bk,o)]):=by
 obtain⟨aj,Z⟩:=Gc ae ah;have aa:=Nd.iff.1 Z;have ak:E bk=Option.none:=(aa.2 (bk,o) (by simp)).1;have al:H bk=Option.none:=(aa.2 (bk,o) (by simp)).2;have W:(S'.set jp []).flatten=S'.flatten:=by
  have:S'.set jp []=S':=by
   apply List.ext_getElem?;intro q;rw [List.getElem?_set];split
   ·rename_i e;subst e;rw [V,if_pos (List.getElem?_eq_some_iff.1 V).1]
   ·rfl
  rw [this]
 have U:=Nd.iff.1 (show Nd _ H S'.flatten from ai);have hX:∀q∈S'.flatten,q.1≠bk:=fun q K e=>by
  have:=(U.2 q K).1;unfold plus at this;rw [if_pos e] at this;cases this
 have Y:Nd E H ((S'.set jp []).flatten++ [(bk,o)]):=by
  rw [W,Nd.iff,List.map_append,List.nodup_append];refine⟨⟨U.1,by simp,fun x O y ab e=>?_⟩,fun q K=>?_⟩
  ·obtain⟨q,K,rfl⟩:=List.mem_map.1 O;simp at ab;subst ab;exact hX q K e
  ·rcases List.mem_append.1 K with K | K
   ·refine⟨?_,(U.2 q K).2⟩;have:=(U.2 q K).1;unfold plus at this
    rwa [if_neg (hX q K)] at this
   ·simp at K;subst K;exact⟨ak,al⟩
 obtain⟨am,an⟩:=Hr (seg':= [(bk,o)]) V Y;refine⟨?_,an⟩;rw [← am,W];unfold Cr Ak mk;congr 1
 ·funext x;show(if AZ [bk] x=true then E x else plus E bk o x)=E x
  by_cases O:x=bk
  ·subst O;simp [AZ]
  ·simp [AZ,O,plus]
 ·funext x;show(if AZ [bk] x=true then(Ak E H S).H x else A7 S'.flatten H x)=A7 (S'.flatten++ [(bk,o)]) H x
  have ao:A7 (S'.flatten++ [(bk,o)]) H=A7 ([(bk,o)]++S'.flatten) H:=JD (by rw [W] at Y;exact Y) List.perm_append_comm;rw [ao];by_cases O:x=bk
  ·subst O;simp only [AZ,List.contains_cons,beq_self_eq_true,Bool.true_or,if_true,List.cons_append,List.nil_append,A7];rw [aj];show A7 ((S.set jp []).flatten++ [(x,o)]) H x=_;rw [show A7 ((S.set jp []).flatten++ [(x,o)]) H=A7 ([(x,o)]++(S.set jp []).flatten) H from JD Z List.perm_append_comm];simp [A7]
  ·simp [AZ,O,A7]
end
end Pal
namespace Pal
open Go Go.Conc
theorem OL.Xh{α:Type}{e:TypeId}{pp:Rp α}{E0 E H:LH}{S:List Seg}{a:Option Addr}{c j:Nat}{seg:Seg}{xs:List α}(U:OL e pp E0 a c seg xs)(Y:As E H S)(Z:S[j]? =some seg):∃wss:List (Lv_),Gh (Ak E H S) (.slice a xs.length c) pp.n wss.flatten∧wss.length=xs.length∧∀(i:Nat) x ws,xs[i]? =some x→wss[i]? =some ws→pp.r E0 ws x:=by
 obtain⟨wss,U,aa,ab⟩:=U;refine⟨wss,?_,aa,ab⟩;rcases U with⟨rfl,ae,W,V,K⟩ | ⟨bk,f,rfl,rfl,W,V,K⟩
 ·exact⟨ae,K⟩
 ·have hle:xs.length*pp.n≤f.size:=by rw [W];exact Nat.mul_le_mul_right _ V
  refine⟨.inl rfl,by rw [K];simp [hle],V,fun q w O=>?_⟩;rw [K,List.getElem?_take] at O;split at O
  ·refine DF Y Z ?_;simpa using O
  ·cases O
section
variable {P:Program}{E H:LH}{S:List Seg}{d:Option Tmp}{x y:Operand}{t ty e:TypeId}{p:String}{af:Ae_}{g:On_}
theorem Va{E0:LH}{ρ:Operand→Value}{K:Next→St→Prop}{α:Type}{pp:Rp α}{t1:TypeId}{al c cx:Nat}{a ax:Option Addr}{seg:Seg}{xs ys am:List α}{ats:Array TypeId}{z:Value}(j:Nat)(ai:DC xs ys=some am)
  (aA:ρ x= .slice a xs.length c) (aB:ρ y= .slice ax ys.length cx) (aC:ats[0]? =some t) (aD:ats[1]? =some t1) (ht:P.underlying t=some (.slice e)) (aE:P.underlying t1=some (.slice e)) (aF:Bs P e=some pp.n) (hb:Ed P e=some al) (aG:zeroOf P e=some z) (aH:z.cells.size=pp.n)
  (aI:0<al) (aJ:al≤64) (ae:OL e pp E0 a c seg xs) (aK:∃V:List (Lv_),Gh (Ak E H S) (.slice ax ys.length cx) pp.n V.flatten∧V.length=ys.length∧∀(i:Nat) x ws,ys[i]? =some x→V[i]? =some ws→pp.r E0 ws x) (aL:As E H S) (au:S[j]? =some seg)
  (h:∀U O g seg',OL e pp E0 U O seg' am→As E H (S.set j (g++seg'))→K (.value (.slice U am.length O)) (Ak E H (S.set j (g++seg')))):
  lp P (execOp ρ ⟨d,.call ⟨.builtin .append,#[x,y],ats⟩,ty,p,af,g⟩) (Ak E H S) K (fun _ _=>False):=by
 unfold DC at ai;split at ai
 rotate_left
 ·cases ai
 rename_i aM;cases ai;obtain⟨V,av,aj,an⟩:=aK;obtain⟨wss,ae,aw,aN⟩:=ae;obtain⟨aO,ao⟩:=Gc aL au;have aP:=HP aj an;have aQ:∀w∈V.flatten,CK w=true:=fun w hw=>by
  obtain⟨us,aR,hw⟩:=List.mem_flatten.1 hw;obtain⟨q,ay⟩:=List.mem_iff_getElem?.1 aR;have aS:q<ys.length:=by rw [← aj];exact(List.getElem?_eq_some_iff.1 ay).1
  exact pp.one (an q _ us (List.getElem?_eq_getElem aS) ay) w hw
 have hlen:(xs++ys).length=xs.length+ys.length:=by simp
 rw [aO] at av ⊢;rw [Lb,aA,aB];have ap:∀{U O seg'},GS e pp.n U (xs.length+ys.length) O seg' (wss.flatten++V.flatten)→OL e pp E0 U O seg' (xs++ys):=fun aT=>
  ⟨wss++V,by rw [hlen,List.flatten_append];exact aT,by simp [aw,aj],MZ aw aN an⟩
 have fin:∀U O g seg',OL e pp E0 U O seg' (xs++ys)→Nd E H ((S.set j []).flatten++(g++seg'))→K (.value (.slice U (xs.length+ys.length) O)) (mk E H ((S.set j []).flatten++(g++seg'))):=fun U O g seg' aU W=>by
  obtain⟨aV,aW⟩:=Hr au W;rw [aV];have:=h U O g seg' aU aW;rw [hlen] at this;exact this
 have aX:Ms ((S.set j []).flatten++seg) (S.set j []).flatten.length e pp.n a xs.length c wss.flatten:=by
  rcases ae with⟨q1,q2,ah,Z,aa⟩ | ⟨bk,f,q1,q2,ah,Z,aa⟩
  ·exact .inl ⟨q1,q2,ah,aa⟩
  ·refine .inr ⟨bk,f,q1,?_,ah,Z,aa⟩;subst q2;simp
 refine AF _ _ (M8 (pl:=(S.set j []).flatten.length) aC aD aE ht aF hb aG aH ao aX av aQ aI aM aJ ?_ ?_ ?_)
 ·intro bk f Y ak a4 a5 aY aq ar W;rcases ae with⟨q1,_⟩ | ⟨ab,f0,q1,q2,ah,Z,aa⟩
  ·rw [q1] at ak;cases ak
  ·subst q2;have aZ:ab=bk:=by rw [q1] at ak;simpa using ak
   subst aZ;have a0:((S.set j []).flatten++ [(ab,Obj.cells f0 e (0,0))]).set (S.set j []).flatten.length (ab,.cells Y e (0,0))=(S.set j []).flatten++ [(ab,.cells Y e (0,0))]:=HS _ _ _ _;rw [a0] at W ⊢;exact fin a c [] _ (ap (.inr ⟨ab,Y,q1,rfl,aq,aY,ar.symm⟩)) W
 ·intro az hm;rcases ae with⟨q1,q2,ah,Z,aa⟩ | ⟨ab,f0,q1,_⟩
  ·have a1:V.flatten= []:=List.eq_nil_of_length_eq_zero (by rw [Lf aP,aj,hm];simp);have:=fin none 0 [] [] (ap (by rw [q2,hm,aa,a1];exact GS.nil)) (by rw [Z] at ao;simpa using ao);rw [q2,hm] at this;rw [Z];simp only [List.append_nil] at this ⊢;exact this
  ·rw [q1] at az;cases az
 ·intro r Y O a2 aq ar W;have a3:(S.set j []).flatten++seg++ [(r,Obj.cells Y e (0,0))]=(S.set j []).flatten++(seg++ [(r,.cells Y e (0,0))]):=List.append_assoc _ _ _;rw [a3] at W ⊢;exact fin (some ⟨r,0,none⟩) O seg _ (ap (.inr ⟨r,Y,rfl,rfl,aq,a2,ar.symm⟩)) W
theorem P9{E0:LH}{ρ:Operand→Value}{K:Next→St→Prop}{α:Type}{pp:Rp α}{t1:TypeId}{O c cx:Nat}{a ax:Option Addr}{seg V:Seg}{xs ys U:List α}{ats:Array TypeId}{z:Value}(j aa:Nat)(ab:DC xs ys=some U)
  (ae:ρ x= .slice a xs.length c) (ah:ρ y= .slice ax ys.length cx) (ai:ats[0]? =some t) (aj:ats[1]? =some t1) (ht:P.underlying t=some (.slice e)) (ak:P.underlying t1=some (.slice e)) (al:Bs P e=some pp.n) (hb:Ed P e=some O) (am:zeroOf P e=some z) (an:z.cells.size=pp.n)
  (ao:0<O) (ap:O≤64) (aq:OL e pp E0 a c seg xs) (ar:OL e pp E0 ax cx V ys) (W:As E H S) (au:S[j]? =some seg) (av:S[aa]? =some V)
  (h:∀Y Z g seg',OL e pp E0 Y Z seg' U→As E H (S.set j (g++seg'))→K (.value (.slice Y U.length Z)) (Ak E H (S.set j (g++seg')))):
  lp P (execOp ρ ⟨d,.call ⟨.builtin .append,#[x,y],ats⟩,ty,p,af,g⟩) (Ak E H S) K (fun _ _=>False):=
 Va j ab ae ah ai aj ht ak al hb am an ao ap aq (ar.Xh W av) W au h
end
section
variable {P:Program}{J:Judge P}{Q:Gs_}{b:Frame}{n:Nat}{ds:Ld_}{ops:Ao_}{k:Li_}{cs:Lf_}{m fuel:Nat}{D:Nat→Bool}{listed:Array Bool}{L:Env}{s:St}{E E' H:LH}{S:List Seg}
variable {d:Option Tmp}{x y:Operand}{t u ty e:TypeId}{p:String}{af:Ae_}{g:On_}{v:Value}{i:Nat}{kd:IntKind}
theorem Take.Bx{jp bk:Nat}{o:Obj}{oi:Oper}(O:As E H S)(U:S[jp]? =some [(bk,o)])(hi:ops[i]? =some oi)(K:(!Db oi.op&&Bt n oi.dst)=true)(hw:A8 L ops oi=some true)
  (h:∀ρ,Ej L ρ→As (plus E bk o) H (S.set jp [])→lp P (execOp ρ oi) (Ak (plus E bk o) H (S.set jp [])) (fun nx s'=>∃v S',nx= .value v∧s'=Ak (plus E bk o) H S'∧As (plus E bk o) H S'∧S'[jp]? =some []∧
   (As E H (S'.set jp [(bk,o)])→AQ J Q b n ds ops k cs m (AZ [bk]) fuel (A6 listed i) (AB L oi.dst v) (Ak E H (S'.set jp [(bk,o)])))) (fun _ _=>False)):
  Take J Q b n ds ops k cs m (AZ [bk]) fuel listed L (Ak E H S) i:=by
 simp only [Bool.and_eq_true] at K;refine⟨oi,hi,K.1,K.2,hw,fun ρ V=>?_⟩;obtain⟨W,Y⟩:=Ux O U;rw [W];refine Di _ (h ρ V Y) ?_ (fun _ _ h=>h);rintro nx s' ⟨v,S',rfl,rfl,Z,aa,ab⟩;obtain⟨ae,ah⟩:=Ti O U Z aa;show AQ J Q b n ds ops k cs m (AZ [bk]) fuel (A6 listed i) (AB L oi.dst v) (Cr (AZ [bk]) (Ak E H S) (Ak (plus E bk o) H S'));rw [ae];exact ab ah
theorem Take.lit{jp bk:Nat}{o:Obj}{α:Type}{pp:Rp α}{len:Nat}{K:Array (Nat×Operand)}(vs:Lv_){z:Value}(xs:List α)(W:As E H S)(O:S[jp]? =some [(bk,o)])
  (Y:ops[i]? =some ⟨d,.buildSlice t len K,ty,p,af,g⟩) (hw:A8 L ops ⟨d,.buildSlice t len K,ty,p,af,g⟩=some true) (Z:Bt n d=true)
  (ht:P.underlying t=some (.slice e)) (aa:Bs P e=some pp.n) (ab:zeroOf P e=some z) (ae:decide (0<len*pp.n∧len*pp.n≤2 ^ 24)=true)
  (ah:K.toList.mapM (fun q=>(ev L q.2).map fun v=>(q.1,v))=some ((vs.zipIdx 0).map fun q=>(q.2,q.1)))
  (ai:vs.length=len) (aj:xs.length=len) (ak:H4 pp E xs vs)
  (h:∀r seg,OL e pp E (some ⟨r,0,none⟩) len seg xs→As E H (S++ [seg])→AQ J Q b n ds ops k cs m (AZ [bk]) fuel (A6 listed i) (AB L d (.slice (some ⟨r,0,none⟩) xs.length len)) (Ak E H (S++ [seg]))):
  Take J Q b n ds ops k cs m (AZ [bk]) fuel listed L (Ak E H S) i:=by
 have U:jp<S.length:=(List.getElem?_eq_some_iff.1 O).1;refine Take.Bx W O Y (by simp [Db,Z]) hw fun ρ al am=>NR al vs xs ht aa ab ae ah ai aj ak am fun r seg an ao=>⟨_,S.set jp []++ [seg],rfl,rfl,ao,by rw [List.getElem?_append_left (by simpa using U)];simp [U],fun V=>?_⟩;have ap:(S.set jp []++ [seg]).set jp [(bk,o)]=S++ [seg]:=by
  rw [List.set_append_left _ _ (by simpa using U),List.set_set];congr 1;apply List.ext_getElem?;intro q;rw [List.getElem?_set];split
  ·rename_i e;subst e;rw [O]
  ·rfl
 rw [ap] at V ⊢;exact h r seg an V
theorem Take.app{jp bk:Nat}{o:Obj}{α:Type}{pp:Rp α}{t1:TypeId}{W c cx:Nat}{a ax:Option Addr}{seg ab:Seg}{xs ys Y:List α}{ats:Array TypeId}{z:Value}(j K:Nat)(ai:As E H S)(Z:S[jp]? =some [(bk,o)])(aj:DC xs ys=some Y)
  (ak:ops[i]? =some ⟨d,.call ⟨.builtin .append,#[x,y],ats⟩,ty,p,af,g⟩) (hw:A8 L ops ⟨d,.call ⟨.builtin .append,#[x,y],ats⟩,ty,p,af,g⟩=some true) (al:Bt n d=true)
  (am:ev L x=some (.slice a xs.length c)) (an:ev L y=some (.slice ax ys.length cx)) (ao:ats[0]? =some t) (ap:ats[1]? =some t1) (ht:P.underlying t=some (.slice e)) (aq:P.underlying t1=some (.slice e)) (ar:Bs P e=some pp.n) (hb:Ed P e=some W) (au:zeroOf P e=some z) (av:z.cells.size=pp.n)
  (aw:0<W) (ay:W≤64) (az:OL e pp E a c seg xs) (aA:OL e pp E ax cx ab ys) (aB:S[j]? =some seg) (aC:S[K]? =some ab) (aD:(j==jp)=false) (aE:(K==jp)=false)
  (h:∀O U g seg',OL e pp E O U seg' Y→As E H (S.set j (g++seg'))→AQ J Q b n ds ops k cs m (AZ [bk]) fuel (A6 listed i) (AB L d (.slice O Y.length U)) (Ak E H (S.set j (g++seg')))):
  Take J Q b n ds ops k cs m (AZ [bk]) fuel listed L (Ak E H S) i:=by
 have aF:jp<S.length:=(List.getElem?_eq_some_iff.1 Z).1;have aa:j≠jp:=by simpa using aD
 have aG:K≠jp:=by simpa using aE
 refine Take.Bx ai Z ak (by simp [Db,al]) hw fun ρ ae aH=>P9 j K aj (ae _ _ am) (ae _ _ an) ao ap ht aq ar hb au av aw ay az aA aH (by rw [List.getElem?_set_ne (Ne.symm aa)];exact aB) (by rw [List.getElem?_set_ne (Ne.symm aG)];exact aC) fun O U V seg' aI aJ=>⟨_,(S.set jp []).set j (V++seg'),rfl,rfl,aJ,by rw [List.getElem?_set_ne aa];simp [aF],fun ah=>?_⟩;have aK:((S.set jp []).set j (V++seg')).set jp [(bk,o)]=S.set j (V++seg'):=by
  rw [List.set_comm _ _ aa,List.set_set];congr 1;apply List.ext_getElem?;intro q;rw [List.getElem?_set];split
  ·rename_i e;subst e;rw [Z]
  ·rfl
 rw [aK] at ah ⊢;exact h O U V seg' aI ah
end
end Pal
namespace Pal
open Go Go.Conc
section
variable {P:Program}{J:Judge P}{Q:Gs_}{b:Frame}{n:Nat}{ds:Ld_}{ops:Ao_}{k:Li_}{cs:Lf_}{m fuel:Nat}{D:Nat→Bool}{listed:Array Bool}{L:Env}{s:St}{E E' H:LH}{S:List Seg}
variable {d:Option Tmp}{x y:Operand}{t u ty e:TypeId}{p:String}{af:Ae_}{g:On_}{v:Value}{i:Nat}{kd:IntKind}
theorem Take.KD{oi:Oper}(hi:ops[i]? =some oi)(K:(!Db oi.op&&Bt n oi.dst)=true)(hw:A8 L ops oi=some true)
  (h:∀ρ,Ej L ρ→lp P (execOp ρ oi) s (fun nx s'=>match nx with
   | .value v=>AQ J Q b n ds ops k cs m D3 fuel (A6 listed i) (AB L oi.dst v) s'
   | .skip=>AQ J Q b n ds ops k cs m D3 fuel (A6 listed i) (AB L oi.dst undef) s'
   | _=>False) (fun _ _=>False)):Take J Q b n ds ops k cs m D3 fuel listed L s i:=by
 simp only [Bool.and_eq_true] at K
 refine⟨oi,hi,K.1,K.2,hw,fun ρ U=>Di _ (h ρ U) ?_ (fun _ _ h=>h)⟩
 intro nx s' O
 cases nx with
 | value v=>exact O
 | skip=>exact O
 | _=>exact O.elim
theorem Take.RG{α:Type}{pp:Rp α}{len:Nat}{K:Array (Nat×Operand)}(vs:Lv_){z:Value}(xs:List α)(O:As E H S)
  (U:ops[i]? =some ⟨d,.buildSlice t len K,ty,p,af,g⟩) (hw:A8 L ops ⟨d,.buildSlice t len K,ty,p,af,g⟩=some true) (V:Bt n d=true)
  (ht:P.underlying t=some (.slice e)) (W:Bs P e=some pp.n) (Y:zeroOf P e=some z) (Z:decide (0<len*pp.n∧len*pp.n≤2 ^ 24)=true)
  (aa:K.toList.mapM (fun q=>(ev L q.2).map fun v=>(q.1,v))=some ((vs.zipIdx 0).map fun q=>(q.2,q.1)))
  (ab:vs.length=len) (ae:xs.length=len) (ah:H4 pp E xs vs)
  (h:∀r seg,OL e pp E (some ⟨r,0,none⟩) len seg xs→As E H (S++ [seg])→AQ J Q b n ds ops k cs m D3 fuel (A6 listed i) (AB L d (.slice (some ⟨r,0,none⟩) xs.length len)) (Ak E H (S++ [seg]))):
  Take J Q b n ds ops k cs m D3 fuel listed L (Ak E H S) i:=
 Take.KD U (by simp [Db,V]) hw fun ρ ai=>NR ai vs xs ht W Y Z aa ab ae ah O fun r seg aj ak=>h r seg aj ak
theorem Take.app0{α:Type}{pp:Rp α}{t1:TypeId}{U c cx:Nat}{a ax:Option Addr}{seg W:Seg}{xs ys V:List α}{ats:Array TypeId}{z:Value}(j Y:Nat)(aa:As E H S)(ab:DC xs ys=some V)
  (ae:ops[i]? =some ⟨d,.call ⟨.builtin .append,#[x,y],ats⟩,ty,p,af,g⟩) (hw:A8 L ops ⟨d,.call ⟨.builtin .append,#[x,y],ats⟩,ty,p,af,g⟩=some true) (ah:Bt n d=true)
  (ai:ev L x=some (.slice a xs.length c)) (aj:ev L y=some (.slice ax ys.length cx)) (ak:ats[0]? =some t) (al:ats[1]? =some t1) (ht:P.underlying t=some (.slice e)) (am:P.underlying t1=some (.slice e)) (an:Bs P e=some pp.n) (hb:Ed P e=some U) (ao:zeroOf P e=some z) (ap:z.cells.size=pp.n)
  (aq:0<U) (ar:U≤64) (au:OL e pp E a c seg xs) (av:OL e pp E ax cx W ys) (aw:S[j]? =some seg) (ay:S[Y]? =some W)
  (h:∀K O g seg',OL e pp E K O seg' V→As E H (S.set j (g++seg'))→AQ J Q b n ds ops k cs m D3 fuel (A6 listed i) (AB L d (.slice K V.length O)) (Ak E H (S.set j (g++seg')))):
  Take J Q b n ds ops k cs m D3 fuel listed L (Ak E H S) i:=
 Take.KD ae (by simp [Db,ah]) hw fun ρ Z=>P9 j Y ab (Z _ _ ai) (Z _ _ aj) ak al ht am an hb ao ap aq ar au av aa aw ay fun K O az seg' aA aB=>h K O az seg' aA aB
theorem Take.Iy{z:Value}(O:As E H S)(U:ops[i]? =some ⟨d,.alloc e,ty,p,af,g⟩)(hw:A8 L ops ⟨d,.alloc e,ty,p,af,g⟩=some true)(V:Bt n d=true)(W:zeroOf P e=some z)
  (h:∀r,As E H (S++ [[(r,.cells z.cells e (0,0))]])→AQ J Q b n ds ops k cs m D3 fuel (A6 listed i) (AB L d (.pointer (some ⟨r,0,none⟩))) (Ak E H (S++ [[(r,.cells z.cells e (0,0))]]))):
  Take J Q b n ds ops k cs m D3 fuel listed L (Ak E H S) i:=
 Take.KD U (by simp [Db,V]) hw fun ρ _=>by
  show lp P (do pure (Next.value (← Instr.alloc e true (.tuple #[])))) _ _ _
  refine AF _ _ ?_
  unfold Instr.alloc
  refine AF _ _ (FU W ?_)
  refine AF _ _ (G1 O fun r K=>?_)
  rw [(Ew K).1]
  exact h r (Ew K).2
end
end Pal
namespace Pal
open Go Go.Conc
theorem FZ{α:Type}{kk:Nat}{pp:Rp α}{E:LH}{ws:Lv_}{xs:List α}(K:(rA kk pp).r E ws xs):ws.length=kk*pp.n:=(rA kk pp).len K
theorem HO{α:Type}{kk:Nat}{pp:Rp α}{E:LH}{ws:Lv_}{xs:List α}{m:Int}{x:α}(O:(rA kk pp).r E ws xs)(hm:ix xs m=some x):∃us,pp.r E us x∧0≤m∧m<kk∧(∀j w,us[j]? =some w→ws[m.toNat*pp.n+j]? =some w):=by
 obtain⟨U,wss,rfl,V,K⟩:=O;obtain⟨m,rfl,hm⟩:=G7 hm;have Y:m<xs.length:=(List.getElem?_eq_some_iff.1 hm).1;have hw:wss[m]? =some wss[m]:=List.getElem?_eq_getElem (by omega);exact⟨wss[m],K m x _ hm hw,by omega,by omega,fun j w W=>IM (HP (V.trans U.symm) K) hw j w W⟩
section
variable {P:Program}{J:Judge P}{Q:Gs_}{b:Frame}{n:Nat}{ds:Ld_}{ops:Ao_}{k:Li_}{cs:Lf_}{L:Env}{E H:LH}{S:List Seg}
variable {d:Option Tmp}{x y:Operand}{t u ty e:TypeId}{p:String}{af:Ae_}{g:On_}{i:Nat}{rest:List Nat}{kd:IntKind}{s:St}{ρ:Operand→Value}
theorem JP{α:Type}{kk:Nat}{pp:Rp α}{a:Addr}{ws:Lv_}{xs:List α}(K:(rA kk pp).r E ws xs)(ht:Dk P t=some true)(O:Bs P t=some (kk*pp.n))(U:ρ x= .pointer (some a))(h:∀j v,ws[j]? =some v→s.cell? (a.add j)=some v):Yl P ⟨d,.load t x,ty,p,af,g⟩ ρ s (.agg ws.toArray):=
 FH ht (by rw [FZ K];exact O) U h
theorem VF{α:Type}{pp:Rp α}{kk:Nat}{ws:Lv_}{xs:List α}{xv:α}{m:Int}{ag:Bool}(U:(rA kk pp).r E ws xs)(hm:ix xs m=some xv)
  (ae:ops[i]? =some ⟨d,.index t x y,ty,p,af,g⟩) (hw:A8 L ops ⟨d,.index t x y,ty,p,af,g⟩=some true) (ah:CL b n ⟨d,.index t x y,ty,p,af,g⟩=true)
  (ai:ev L x=some (.agg ws.toArray)) (aj:ev L y=some (.int kd m)) (ht:P.underlying t=some (.array kk e)) (V:Bs P e=some pp.n) (ak:Dk P e=some ag)
  (h:∀us,pp.r E us xv→JL J Q b n (AB L d (if ag then .agg us.toArray else us.headD undef)) ds (.inRegion ops rest::k) cs s) (al:ag=false→pp.n=1):
  JL J Q b n L ds (.inRegion ops (i::rest)::k) cs s:=by
 obtain⟨us,W,am,an,Y⟩:=HO U hm;have hlen:=pp.len W;have ao:=FZ U;refine A1 ae hw ah (fun ρ Z=>?_) (h us W);refine FE (sm:=Instr.index t (ρ x) (ρ y)) rfl ?_;rw [Z _ _ ai,Z _ _ aj];unfold Instr.index;simp only [asIntOf,GY];refine AF (x:=underlying t) _ (Dh ht ?_);simp only [am,an,and_self,if_true];refine AF (x:=Go.sizeOf e) _ (EG V ?_);unfold Go.part;refine AF (x:=isAgg e) _ (JX ak ?_);have aq:m.toNat*pp.n+pp.n≤ws.length:=by
  rw [ao];have:(m.toNat+1)*pp.n≤kk*pp.n:=Nat.mul_le_mul_right _ (by omega);rw [Nat.succ_mul] at this;exact this
 cases ag with
 | true=>
  simp only [if_true];refine AF (x:=Go.sizeOf e) _ (EG V ?_);have ap:ws.toArray.extract (m.toNat*pp.n) (m.toNat*pp.n+pp.n)=us.toArray:=by
   apply Array.ext_getElem?;intro j;by_cases aa:j<us.length
   ·have O:=Y j us[j] (List.getElem?_eq_getElem aa);simp only [Array.getElem?_extract,List.size_toArray,List.getElem?_toArray];rw [if_pos (by omega),O];simp [aa]
   ·rw [Array.getElem?_eq_none (by simp;omega),Array.getElem?_eq_none (by simp;omega)]
  rw [ap];exact⟨rfl,rfl⟩
 | false=>
  have ab:=al rfl;obtain⟨w,rfl⟩:∃w,us= [w]:=by
   match us,hlen with
   | [w],_=>exact⟨w,rfl⟩
   | [],K=>rw [ab] at K;cases K
   | _::_::_,K=>rw [ab] at K;simp at K
  have O:=Y 0 w rfl;simp only [Bool.false_eq_true,if_false,List.getElem?_toArray];rw [Nat.add_zero] at O;rw [O];exact⟨rfl,rfl⟩
end
end Pal
namespace Pal
open Go Go.Conc
theorem OL.Ry{α:Type}{e:TypeId}{pp:Rp α}{E:LH}{a:Option Addr}{c:Nat}{seg:Seg}{xs:List α}{m:Int}{x:α}(K:OL e pp E a c seg xs)(hm:ix xs m=some x):
  ∃bk f ws,a=some ⟨bk,0,none⟩∧seg= [(bk,.cells f e (0,0))]∧pp.r E ws x∧(∀j w,ws[j]? =some w→f[m.toNat*pp.n+j]? =some w):=by
 obtain⟨m,rfl,hm⟩:=G7 hm;obtain⟨bk,f,ws,O,U,V,W,_⟩:=OL.get K hm;exact⟨bk,f,ws,O,U,V,W⟩
def F0(S:List Seg):List Nat→Prop
 | []=>True
 | bk::bks=>(∃(j:Nat) (o:Obj),S[j]? =some [(bk,o)])∧F0 S bks
theorem F0.mem{S:List Seg}:∀{bks:List Nat},F0 S bks→∀bk∈bks,∃(j:Nat) (o:Obj),S[j]? =some [(bk,o)]
 | [],_,_,h=>by cases h
 | b::bks,h,bk,hb=>by
  rcases List.mem_cons.1 hb with rfl | hb
  ·exact h.1
  ·exact h.2.mem bk hb
theorem F0.free{E H:LH}{S:List Seg}{bks:List Nat}(h:F0 S bks)(K:As E H S):∀x,AZ bks x=true→E x=none:=fun x O=>by
 obtain⟨j,o,U⟩:=h.mem x (by simpa [AZ] using O)
 exact L5 K U
section
variable {P:Program}{J:Judge P}{Q:Gs_}{b:Frame}{n:Nat}{ds:Ld_}{ops:Ao_}{k:Li_}{cs:Lf_}{m fuel:Nat}{D:Nat→Bool}{listed:Array Bool}{L:Env}{s:St}{E E' H:LH}{S:List Seg}
variable {d:Option Tmp}{x y:Operand}{t u ty e:TypeId}{p:String}{af:Ae_}{g:On_}{v:Value}{i:Nat}{kd:IntKind}
theorem Ly{bks:List Nat}{f:FuncId}{args:Array Operand}{ats:Array TypeId}{vs:Lv_}{R:Value→LH→Seg→Prop}(ae:F0 S bks)(ah:AR J f vs E [] R)(ai:Region.ready .any ops listed= [i])
  (aj:ops[i]? =some ⟨d,.call ⟨.value (.func f),args,ats⟩,ty,p,af,g⟩) (ak:Bt n d=true) (hw:A8 L ops ⟨d,.call ⟨.value (.func f),args,ats⟩,ty,p,af,g⟩=some true) (hb:DG P f=true) (al:evs L args.toList=some vs) (Y:As E H S)
  (am:∀v E' seg',Le E E'→R v E' seg'→As E' H (S++ [seg'])→AQ J Q b n ds ops k cs m (AZ bks) fuel (A6 listed i) (AB L d v) (Ak E' H (S++ [seg']))):
  AQ J Q b n ds ops k cs m (AZ bks) (fuel+1) listed L (Ak E H S):=by
 have an:=DN.Ji (ah (A7 S.flatten H) trivial) (by rintro v s' ⟨E',B',_,_,_,rfl⟩;rfl);refine AQ.call rfl ai aj ak hw hb al an ?_;rintro v ay ⟨⟨E',B',hle,ao,ap,rfl⟩,w,aq⟩;have e2:mk E' (A7 S.flatten H) B'=mk E' H (B'++S.flatten):=by unfold mk;rw [FF]
 have ar:Nd E' H S.flatten:=Nd.grow Y fun x O=>by
  have au:=aq.d x O;have U:A7 B' (A7 S.flatten H) x=none:=au;exact(Gy U).1
 have Z:Nd E' H (B'++S.flatten):=Nd.glue ap ar;have aa:(B'++S.flatten).Perm (S++ [B']).flatten:=by rw [GB];exact List.perm_append_comm
 have ab:As E' H (S++ [B']):=Nd.perm Z aa;rw [e2,EI Z aa];refine⟨rfl,fun x o O=>?_,am v E' B' hle ao ab⟩;by_cases V:AZ bks x=true
 ·obtain⟨j,o',W⟩:=ae.mem x (by simpa [AZ] using V);have U:(Ak E H S).get x=some o':=Ez (i:=0) Y W rfl;have av:j<S.length:=(List.getElem?_eq_some_iff.1 W).1;have aw:(Ak E' H (S++ [B'])).get x=some o':=Ez (i:=0) ab (by rw [List.getElem?_append_left av];exact W) rfl;have K:(if AZ bks x then(Ak E H S).get x else E x)=some o:=O
  show(if AZ bks x then(Ak E' H (S++ [B'])).get x else E' x)=some o
  rw [if_pos V] at K ⊢;rw [aw,← U];exact K
 ·have K:(if AZ bks x then(Ak E H S).get x else E x)=some o:=O
  show(if AZ bks x then(Ak E' H (S++ [B'])).get x else E' x)=some o
  rw [if_neg V] at K ⊢;exact hle _ _ K
theorem Uj(m:Nat)(bks:List Nat){id:Nat}(O:F0 S bks)(U:As E H S)(hm:P.follows .mixedOrders=true)(K:(b.kind != .early)=true)(ht:Dx ops m=true)
  (h:Dx ops m=true→AQ J Q b n ds ops k cs m (AZ bks) ops.size (Array.replicate ops.size false) L (Ak E H S)):JL J Q b n L ds (.code (.region id ops true)::k) cs (Ak E H S):=
 Pz m (AZ bks) rfl hm K (h ht)
theorem Il{bks:List Nat}{bk o:Nat}{c:Ay}{f:Nat×Nat}{w:Value}{s':St}(j:Nat)(K:As E H S)(O:S[j]? =some [(bk,.cells c e f)])(U:AZ bks bk=true)(hs:∀x o,(Bx (AZ bks) (Ak E H S)).E x=some o→s'.E x=some o)(hw:c[o]? =some w):s'.cell? ⟨bk,o,none⟩=some w:=by
 have V:(Bx (AZ bks) (Ak E H S)).E bk=some (.cells c e f):=by
  show(if AZ bks bk then(Ak E H S).get bk else E bk)=_
  rw [if_pos U];exact Ez (i:=0) K O rfl
 have W:=hs _ _ V;unfold St.cell? St.get;rw [W];exact hw
theorem SZ{bks:List Nat}{bk o:Nat}{c:Ay}{f:Nat×Nat}{ws:Lv_}{s':St}(j:Nat)(O:As E H S)(U:S[j]? =some [(bk,.cells c e f)])(V:AZ bks bk=true)(hs:∀x o,(Bx (AZ bks) (Ak E H S)).E x=some o→s'.E x=some o)(hw:(c.toList.drop o).take ws.length=ws):∀q w,ws[q]? =some w→s'.cell? (Addr.add ⟨bk,o,none⟩ q)=some w:=fun q w K=>by
 rw [DT rfl]
 refine Il j O U V hs ?_
 have W:q<ws.length:=(List.getElem?_eq_some_iff.1 K).1
 rw [← hw,List.getElem?_take_of_lt W,List.getElem?_drop,Array.getElem?_toList] at K
 exact K
theorem N5{bks:List Nat}{s':St}(O:As E H S)(hs:∀x o,(Bx (AZ bks) (Ak E H S)).E x=some o→s'.E x=some o)(U:F0 S bks):∀x o,E x=some o→s'.E x=some o:=fun x o K=>hs x o (by
 show(if AZ bks x then(Ak E H S).get x else E x)=some o
 rw [if_neg (fun V=>by rw [U.free O x V] at K;cases K)];exact K)
end
end Pal
namespace Pal
open Go Go.Conc
theorem Nl{P:Program}{s:St}{ρ:Operand→Value}{x y:Operand}{d:Option Tmp}{t ty e:TypeId}{p:String}{af:Ae_}{g:On_}{kd:IntKind}{α:Type}{xs:List α}{xv:α}{m:Int}{bk c K:Nat}(hm:ix xs m=some xv)(ht:P.underlying t=some (.slice e))(O:Bs P e=some K)(U:ρ x= .slice (some ⟨bk,0,none⟩) xs.length c)(V:ρ y= .int kd m):
  Yl P ⟨d,.indexAddr t x y,ty,p,af,g⟩ ρ s (.pointer (some ⟨bk,m.toNat*K,none⟩)):=by
 obtain⟨m,rfl,hm⟩:=G7 hm;have W:m<xs.length:=(List.getElem?_eq_some_iff.1 hm).1;have:=Ll (P:=P) (s:=s) (d:=d) (ty:=ty) (p:=p) (af:=af) (g:=g) ht O U V ⟨by omega,by omega⟩;rw [DT rfl] at this;simpa using this
end Pal
namespace Pal
open Go Go.Conc
def Hh(ws:Lv_)(q:Nat)(us:Lv_):Lv_:=(Ba ws.toArray q us).toList
theorem Lz{ws us:Lv_}{q:Nat}(h:q+us.length≤ws.length)(j:Nat):(Hh ws q us)[j]? =if q≤j∧j<q+us.length then us[j - q]? else ws[j]? :=by
 unfold Hh;rw [Array.getElem?_toList,Lm us _ q (by simpa using h)];simp
theorem Su{l ws us:Lv_}{q:Nat}(h:q+us.length≤ws.length):Ba (l++ws).toArray (l.length+q) us=(l++Hh ws q us).toArray:=by
 apply Array.ext_getElem?;intro j;rw [Lm us _ _ (by simp;omega)];simp only [List.getElem?_toArray];by_cases O:l.length+q≤j∧j<l.length+q+us.length
 ·rw [if_pos O,List.getElem?_append_right (by omega),Lz h,if_pos (by omega)];congr 1;omega
 ·rw [if_neg O];rcases Nat.lt_or_ge j l.length with K | K
  ·rw [List.getElem?_append_left K,List.getElem?_append_left K]
  ·rw [List.getElem?_append_right K,List.getElem?_append_right K,Lz h,if_neg (by omega)]
theorem Pv{ws us:Lv_}(h:us.length=ws.length):Hh ws 0 us=us:=by
 apply List.ext_getElem?;intro j;rw [Lz (by omega)];split
 ·simp
 ·rename_i K;rw [List.getElem?_eq_none (by omega),List.getElem?_eq_none (by omega)]
theorem Lu{E H:LH}{S:List Seg}{bk:Nat}{l ws:Lv_}{e:TypeId}{f:Nat×Nat}(j:Nat)(K:As E H S)(O:S[j]? =some [(bk,.cells (l++ws).toArray e f)]):∀q v,ws[q]? =some v→(Ak E H S).cell? (Addr.add ⟨bk,l.length,none⟩ q)=some v:=fun q v U=>by
 rw [DT rfl]
 refine DF K O ?_
 simp only [List.getElem?_toArray]
 rw [List.getElem?_append_right (by omega)]
 rw [show l.length+q - l.length=q by omega];exact U
theorem Te{E H:LH}{S:List Seg}{bk o:Nat}{l ws:Lv_}{e:TypeId}{f:Nat×Nat}{w:Value}(j:Nat)(K:As E H S)(O:S[j]? =some [(bk,.cells (l++ws).toArray e f)])(U:ws[o]? =some w):(Ak E H S).cell? ⟨bk,l.length+o,none⟩=some w:=by
 have:=Lu j K O o w U
 rwa [DT rfl] at this
theorem NS{α:Type}{kk:Nat}{pp:Rp α}{E:LH}{ws us:Lv_}{xs:List α}{m:Int}{x y:α}(W:(rA kk pp).r E ws xs)(hm:ix xs m=some x)(hu:pp.r E us y):(rA kk pp).r E (Hh ws (m.toNat*pp.n) us) (xs.set m.toNat y)∧m.toNat*pp.n+us.length≤ws.length:=by
 have aj:=FZ W;obtain⟨Y,wss,rfl,Z,aa⟩:=W;obtain⟨m,rfl,hm⟩:=G7 hm;have ak:m<xs.length:=(List.getElem?_eq_some_iff.1 hm).1;have ab:=pp.len hu;have al:=HP (Z.trans Y.symm) aa;have ae:m*pp.n+us.length≤wss.flatten.length:=by
  rw [aj,ab];have:(m+1)*pp.n≤kk*pp.n:=Nat.mul_le_mul_right _ (by omega);rw [Nat.succ_mul] at this;exact this
 simp only [Int.toNat_natCast];refine⟨⟨by simpa using Y,wss.set m us,?_,by simpa using Z,fun i am an O U=>?_⟩,ae⟩
 ·apply List.ext_getElem?;intro j;rw [Lz ae];have key:∀(wss:List (Lv_)) (m:Nat) (hm:m<wss.length),(∀ws∈wss,ws.length=pp.n)→∀j,(wss.set m us).flatten[j]? =if m*pp.n≤j∧j<m*pp.n+us.length then us[j - m*pp.n]? else wss.flatten[j]? :=by
   intro wss
   induction wss with
   | nil=>intro m hm;simp at hm
   | cons vs wss ao=>
    intro m hm ah j;have ap:vs.length=pp.n:=ah vs (by simp);cases m with
    | zero=>
     simp only [List.set_cons_zero,List.flatten_cons,Nat.zero_mul,Nat.zero_le,true_and,Nat.zero_add,Nat.sub_zero];split
     ·rename_i K;rw [List.getElem?_append_left K]
     ·rename_i K;rw [List.getElem?_append_right (by omega),List.getElem?_append_right (by omega),ab,ap]
    | succ m=>
     simp only [List.set_cons_succ,List.flatten_cons];have V:(m+1)*pp.n=m*pp.n+pp.n:=Nat.succ_mul _ _;rcases Nat.lt_or_ge j vs.length with K | K
     ·rw [List.getElem?_append_left K,List.getElem?_append_left K,if_neg (by omega)]
     ·rw [List.getElem?_append_right K,List.getElem?_append_right K,ao m (by simpa using hm) (fun ws aq=>ah ws (List.mem_cons_of_mem _ aq))];by_cases ai:m*pp.n≤j - vs.length∧j - vs.length<m*pp.n+us.length
      ·rw [if_pos ai,if_pos (by omega)];congr 1;omega
      ·rw [if_neg ai,if_neg (by omega)]
  exact(key wss m (by omega) al j).symm
 ·rw [List.getElem?_set] at O U;by_cases V:m=i
  ·subst V;rw [if_pos rfl,if_pos ak] at O;rw [if_pos rfl,if_pos (by omega)] at U;cases O;cases U;exact hu
  ·rw [if_neg V] at O U;exact aa i am an O U
theorem I9{α:Type}{kk:Nat}{pp:Rp α}{E:LH}{w:Value}{x:α}(h:pp.r E [w] x):(rA kk pp).r E (List.replicate kk w) (List.replicate kk x):=by
 refine⟨by simp,List.replicate kk [w],?_,by simp,fun i y us K hu=>?_⟩
 ·induction kk with
  | zero=>rfl
  | succ k O=>rw [List.replicate_succ,List.replicate_succ,List.flatten_cons,← O];rfl
 ·have U:=List.eq_of_mem_replicate (List.mem_of_getElem? K);have e2:=List.eq_of_mem_replicate (List.mem_of_getElem? hu);subst U e2;exact h
section
variable {P:Program}{J:Judge P}{Q:Gs_}{b:Frame}{n:Nat}{ds:Ld_}{ops:Ao_}{k:Li_}{cs:Lf_}{L:Env}{E H:LH}{S:List Seg}
variable {d:Option Tmp}{x y:Operand}{t u ty e:TypeId}{p:String}{af:Ae_}{g:On_}{i:Nat}{rest:List Nat}{kd:IntKind}{s:St}{ρ:Operand→Value}
theorem IQ{α:Type}{kk:Nat}{pp:Rp α}{ws:Lv_}{xs:List α}{xv:α}{m:Int}{bk o:Nat}(K:(rA kk pp).r E ws xs)(hm:ix xs m=some xv)(ht:P.underlying t=some (.array kk e))(O:Bs P e=some pp.n)(U:ρ x= .pointer (some ⟨bk,o,none⟩))(V:ρ y= .int kd m):
  Yl P ⟨d,.indexAddr t x y,ty,p,af,g⟩ ρ s (.pointer (some ⟨bk,o+m.toNat*pp.n,none⟩)):=by
 obtain⟨us,Z,W,Y,aa⟩:=HO K hm;have:=Pc (P:=P) (s:=s) (d:=d) (ty:=ty) (p:=p) (af:=af) (g:=g) ht O U V ⟨W,Y⟩;rw [DT rfl] at this;exact this
theorem JK{bk o:Nat}{l ws us:Lv_}{v:Value}(j:Nat)(U:ops[i]? =some ⟨d,.store t x y,ty,p,af,g⟩)(hw:A8 L ops ⟨d,.store t x y,ty,p,af,g⟩=some true)(V:CL b n ⟨d,.store t x y,ty,p,af,g⟩=true)(W:As E H S)
  (Y:ev L x=some (.pointer (some ⟨bk,l.length+o,none⟩))) (Z:ev L y=some v) (K:v.cells.toList=us) (aa:Bs P t=some us.length) (ab:∀u∈us,CK u=true) (ae:S[j]? =some [(bk,.cells (l++ws).toArray e (0,0))]) (hle:o+us.length≤ws.length)
  (h:As E H (S.set j [(bk,.cells (l++Hh ws o us).toArray e (0,0))])→JL J Q b n (AB L d undef) ds (.inRegion ops rest::k) cs (Ak E H (S.set j [(bk,.cells (l++Hh ws o us).toArray e (0,0))]))):
  JL J Q b n L ds (.inRegion ops (i::rest)::k) cs (Ak E H S):=by
 have ah:v.cells.size=us.length:=by rw [← K];simp
 refine JS.store (v:=v) (off:=l.length+o) j U hw V W Y Z (by rw [ah];exact aa) (by rw [K];exact ab) ae (by simp;omega) fun O=>?_;rw [K,Su hle] at O ⊢;exact h O
theorem T4{todo:Li_}{K A:Type}{body:K→Option (Bj K A)}{f:Nat}{O:K}{a:A}(U:iter body f O=some a)(I:Env→St→K→Prop)(W:I L s O)
  (round:∀L s x,I L s x→(∀V,body x=some (.done V)→V=a)→(∃st,body x=some st)→(∀L' s' x',I L' s' x'→body x=some (.more x')→JL J Q b n L' ds todo cs s')→JL J Q b n L ds todo cs s):
  JL J Q b n L ds todo cs s:=by
 induction f generalizing L s O with
 | zero=>cases U
 | succ f Y=>
  exact round L s O W (fun V h=>OV U h) (O7 U) fun L' s' x' Z hb=>Y (OY U hb) Z
end
end Pal
namespace Pal
open Go Go.Conc
section
variable {P:Program}{s:St}{ρ:Operand→Value}{x y z:Operand}{d:Option Tmp}{t u ty e:TypeId}{p:String}{af:Ae_}{g:On_}{v v':Value}{E:LH}
structure Od (P:Program) (e:TypeId) (kd:IntKind) (f:Field):Prop where
 ht:P.underlying e=some (.struct #[f])
 hs:P.stoodInHeld e=false
 n1:f.name≠ "_"
 u1:P.underlying f.type=some (.int kd)
 o1:f.offset=0
theorem Wz{n:Nat}{kd:IntKind}{a b:Int}(ht:P.underlying t=some (.int kd)){Q:Bool→St→Prop}{X:Halt→St→Prop}(k:Q (a==b) s):lp P (Op.equalIn (n+1) t (.int kd a) (.int kd b)) s Q X:=by
 unfold Op.equalIn;refine AF _ _ (Dh ht ?_);simp only [if_true];exact k
theorem Ua{n:Nat}{kd:IntKind}{f:Field}{a b:Int}(h:Od P e kd f){Q:Bool→St→Prop}{X:Halt→St→Prop}(k:Q (decide (a=b)) s):lp P (Op.equalIn (n+2) e (.agg #[.int kd a]) (.agg #[.int kd b])) s Q X:=by
 unfold Op.equalIn;refine AF _ _ (Dh h.ht ?_);refine AF (x:=program) _ ?_;show lp P (if P.stoodInHeld e=true then _ else _) s _ _
 rw [if_neg (by rw [h.hs];exact Bool.false_ne_true)];have K:Dk P f.type=some false:=by unfold Dk;rw [h.u1]
 dsimp only;rw [← Array.forIn_toList];simp only [List.forIn_cons,List.forIn_nil];refine AF _ _ (AF _ _ ?_);rw [if_pos h.n1,h.o1];refine AF _ _ (PS (v:= .int kd a) K rfl ?_);refine AF _ _ (PS (v:= .int kd b) K rfl ?_);refine AF _ _ (Wz h.u1 ?_);by_cases h:a=b
 ·subst h;simpa [lp,pure] using k
 ·simpa [lp,pure,h] using k
theorem Pp{c:Ay}{off:Nat}{w:Value}(ht:Dk P e=some true)(K:Bs P e=some 1)(hw:c[off]? =some w){Q:Value→St→Prop}{X:Halt→St→Prop}(k:Q (.agg #[w]) s):lp P (part e c off) s Q X:=by
 unfold Go.part;refine AF (x:=isAgg e) _ (JX ht ?_);simp only [if_true];refine AF (x:=Go.sizeOf e) _ (EG K ?_);have O:c.extract off (off+1)= #[w]:=by
  have U:off<c.size:=(Array.getElem?_eq_some_iff.1 hw).1;apply Array.ext_getElem?;intro j;simp only [Array.getElem?_extract];cases j with
  | zero=>rw [if_pos (by omega)];simpa using hw
  | succ j=>rw [if_neg (by omega)];simp
 show Q (.agg (c.extract off (off+1))) s;rw [O];exact k
theorem Uf{n kk:Nat}{kd:IntKind}{f:Field}{ws ws':Lv_}{xs O:List Nat}(ht:P.underlying t=some (.array kk e))(h:Od P e kd f)(Y:Bs P e=some 1)(W:(rA kk (rN kd)).r E ws xs)(ae:(rA kk (rN kd)).r E ws' O)
  {Q:Bool→St→Prop} {X:Halt→St→Prop} (k:Q (decide (xs=O)) s):lp P (Op.equalIn (n+3) t (.agg ws.toArray) (.agg ws'.toArray)) s Q X:=by
 have ah:Dk P e=some true:=by unfold Dk;rw [h.ht]
 have ay:=W.1;have az:=ae.1;have at_:∀{ws:Lv_} {xs:List Nat},(rA kk (rN kd)).r E ws xs→∀i,i<kk→∃a,xs[i]? =some a∧ws[i]? =some (.int kd ((a:Nat):Int)):=by
  intro ws xs W i hi;obtain⟨a,ai⟩:∃a,xs[i]? =some a:=⟨_,List.getElem?_eq_getElem (by rw [W.1];exact hi)⟩;obtain⟨us,al,_,_,am⟩:=HO (m:=(i:Int)) W (by unfold ix;simp;exact ai);have an:us= [.int kd ((a:Nat):Int)]:=al;subst an;have:=am 0 _ rfl;simp [rN] at this;exact⟨_,ai,this⟩
 unfold Op.equalIn;refine AF _ _ (Dh ht ?_);refine AF (x:=Go.sizeOf e) _ (EG Y ?_)
 dsimp only;simp only [Std.Legacy.Range.forIn_eq_forIn_range',Std.Legacy.Range.size,Nat.sub_zero,Nat.add_one_sub_one,Nat.div_one];let ao:Nat→Option Bool×Unit→Sem (ForInStep (Option Bool×Unit)):=fun i _=>do
  if !(← Op.equalIn (n+2) e (← Go.part e ws.toArray (i*1)) (← Go.part e ws'.toArray (i*1))) then pure (ForInStep.done (some false,())) else pure (ForInStep.yield (none,()))
 have key:∀(m st:Nat),st+m=kk→(∀i,i<st→xs[i]? =O[i]?)→∀{K:Option Bool×Unit→St→Prop},K (if xs=O then(none,()) else(some false,())) s→lp P (forIn (List.range' st m) (none,()) ao:Sem _) s K X:=by
  intro m
  induction m with
  | zero=>
   intro st ap Z K U;have V:xs=O:=by
    apply List.ext_getElem?;intro i;rcases Nat.lt_or_ge i st with hi | hi
    ·exact Z i hi
    ·rw [List.getElem?_eq_none (by omega),List.getElem?_eq_none (by omega)]
   rw [if_pos V] at U;simp only [List.range'_zero,List.forIn_nil];exact U
  | succ m aq=>
   intro st ap Z K U;simp only [List.range'_succ,List.forIn_cons];obtain⟨a,aa,ar⟩:=at_ W st (by omega);obtain⟨c,ab,au⟩:=at_ ae st (by omega);refine AF _ _ (AF _ _ (Pp ah Y (by rw [Nat.mul_one];simpa using ar) ?_));refine AF _ _ (Pp ah Y (by rw [Nat.mul_one];simpa using au) ?_);refine AF _ _ (Ua h ?_);by_cases aj:a=c
   ·subst aj;simp only [decide_true,Bool.not_true,Bool.false_eq_true,if_false,lp,pure];exact aq (st+1) (by omega) (fun i hi=>by
     rcases Nat.lt_or_ge i st with ak | ak
     ·exact Z i ak
     ·obtain rfl:i=st:=by omega
      rw [aa,ab]) U
   ·have av:¬xs=O:=fun q=>aj (by rw [q] at aa;rw [aa] at ab;exact Option.some.inj ab);rw [if_neg av] at U;have aw:¬((a:Nat):Int)=((c:Nat):Int):=by omega
    simp only [aw,decide_false,Bool.not_false,if_true,lp,pure];exact U
 refine AF _ _ (key kk 0 (by omega) (fun i hi=>by omega) ?_);by_cases V:xs=O
 ·rw [if_pos V];simpa [lp,pure,V] using k
 ·rw [if_neg V];simpa [lp,pure,V] using k
def RD(P:Program)(e:TypeId)(kd:IntKind):Prop:=∃f,Od P e kd f
theorem T3{kk:Nat}{kd:IntKind}{ws ws':Lv_}{xs K:List Nat}(ht:P.underlying t=some (.array kk e))(O:P.eqGuardType P.depth t=false)(U:RD P e kd)(V:Bs P e=some 1)(W:(rA kk (rN kd)).r E ws xs)(Y:(rA kk (rN kd)).r E ws' K)
  (Z:ρ x= .agg ws.toArray) (aa:ρ y= .agg ws'.toArray):Yl P ⟨d,.binOp .neq t x y u,ty,p,af,g⟩ ρ s (.bool (decide (xs≠K))):=by
 obtain⟨f,h⟩:=U;refine FE (sm:=do eqGuard .neq t x y (ρ x) (ρ y);binOp .neq t (ρ x) (ρ y)) rfl ?_
 rw [Z,aa];refine AF _ _ (SW (.inr rfl) O ?_);have hb:binOp .neq t (.agg ws.toArray) (.agg ws'.toArray)=(do pure (.bool (!(← Op.equal t (.agg ws.toArray) (.agg ws'.toArray))))):=rfl
 rw [hb];refine AF (x:=Op.equal t _ _) _ ?_;unfold Op.equal Op.maxDepth;exact Uf ht h V W Y ⟨by simp,rfl⟩
end
theorem Um{E H:LH}{S:List Seg}{bk o:Nat}{l ws:Lv_}{e:TypeId}{f:Nat×Nat}{w:Value}(j:Nat)(O:As E H S)(U:S[j]? =some [(bk,.cells (l++ws).toArray e f)])(K:l[o]? =some w):(Ak E H S).cell? ⟨bk,o,none⟩=some w:=by
 refine DF O U ?_;simp only [List.getElem?_toArray];rw [List.getElem?_append_left (List.getElem?_eq_some_iff.1 K).1];exact K
theorem Nc{E H:LH}{S:List Seg}{bks:List Nat}{bk:Nat}{l ws:Lv_}{e:TypeId}{f:Nat×Nat}{s':St}(j:Nat)(K:As E H S)(O:S[j]? =some [(bk,.cells (l++ws).toArray e f)])(U:AZ bks bk=true)(hs:∀x o,(Bx (AZ bks) (Ak E H S)).E x=some o→s'.E x=some o):∀q v,ws[q]? =some v→s'.cell? (Addr.add ⟨bk,l.length,none⟩ q)=some v:=fun q v V=>by
 rw [DT rfl]
 refine Il j K O U hs ?_
 simp only [List.getElem?_toArray]
 rw [List.getElem?_append_right (by omega)]
 rw [show l.length+q - l.length=q by omega];exact V
end Pal
namespace Pal
open Go Go.Conc
def Oi(t1 t2:TypeId)(v:Value):Option (Int×Option Int)→Prop
 | none=>v= .nilIface
 | some (m,none)=>v= .iface t1 (.agg #[iV m])
 | some (m,some a)=>v= .iface t2 (.agg #[iV m,iV a])
def Oh:Option (Int×Option Int)→Value
 | some (m,none)=> .agg #[iV m]
 | _=> .agg #[iV 0]
def Og:Option (Int×Option Int)→Value
 | some (m,some a)=> .agg #[iV m,iV a]
 | _=> .agg #[iV 0,iV 0]
def Jh:Option (Int×Option Int)→Bool
 | some (_,none)=>true
 | _=>false
def Ku:Option (Int×Option Int)→Bool
 | some (_,some _)=>true
 | _=>false
section
variable {P:Program}{s:St}{ρ:Operand→Value}{x y z:Operand}{d:Option Tmp}{t u ty e xt t1 t2:TypeId}{p:String}{af:Ae_}{g:On_}{v v':Value}{o:Option (Int×Option Int)}
theorem SC{f1:Array Field}(O:P.underlying t1=some (.struct f1))(K:zeroOf P t1=some (.agg #[iV 0]))(U:t2≠t1)(he:Oi t1 t2 v o)(V:ρ x=v):Yl P ⟨d,.typeAssert x xt t1 true,ty,p,af,g⟩ ρ s (.tuple #[Oh o,.bool (Jh o)]):=by
 refine FE (sm:=Instr.typeAssert (ρ x) xt t1 true) rfl ?_;rw [V];unfold Instr.typeAssert;refine AF _ _ (Dh O ?_)
 match o,he with
 | none,he=>obtain rfl:v= .nilIface:=he;exact AF (x:=zeroValue t1) _ (FU K ⟨rfl,rfl⟩)
 | some (m,none),he=>obtain rfl:v= .iface t1 (.agg #[iV m]):=he;simp [lp,pure,Oh,Jh]
 | some (m,some a),he=>
  obtain rfl:v= .iface t2 (.agg #[iV m,iV a]):=he;simp only [if_neg U];exact AF (x:=zeroValue t1) _ (FU K ⟨rfl,rfl⟩)
theorem SA{f1:Array Field}(O:P.underlying t2=some (.struct f1))(K:zeroOf P t2=some (.agg #[iV 0,iV 0]))(U:t1≠t2)(he:Oi t1 t2 v o)(V:ρ x=v):Yl P ⟨d,.typeAssert x xt t2 true,ty,p,af,g⟩ ρ s (.tuple #[Og o,.bool (Ku o)]):=by
 refine FE (sm:=Instr.typeAssert (ρ x) xt t2 true) rfl ?_;rw [V];unfold Instr.typeAssert;refine AF _ _ (Dh O ?_)
 match o,he with
 | none,he=>obtain rfl:v= .nilIface:=he;exact AF (x:=zeroValue t2) _ (FU K ⟨rfl,rfl⟩)
 | some (m,none),he=>
  obtain rfl:v= .iface t1 (.agg #[iV m]):=he;simp only [if_neg U];exact AF (x:=zeroValue t2) _ (FU K ⟨rfl,rfl⟩)
 | some (m,some a),he=>obtain rfl:v= .iface t2 (.agg #[iV m,iV a]):=he;simp [lp,pure,Og,Ku]
end
def RJ{P:Program}(J:Judge P)(v:Value)(args:Ay)(s:St)(R:Value→St→Prop):Prop:=
 ∀(Q:Gs_) (c:Frame) (cs:Lf_),(∀w s',R w s'→J.ok Q (G (c.finish w) cs) s')→
  lp P (do let d ← Deferred.ofValue v args;invoke d.target d.args) s (fun nx s'=>match nx with
   | .enter f a=>J.ok Q (G (Frame.enter P f a .normal) (c::cs)) s'
   | .round l f K as O=>J.ok Q (G (Frame.round l f K as O .normal) (c::cs)) s'
   | _=>False) (fun _ _=>False)
def EB{P:Program}(J:Judge P)(v:Value)(args:Lv_)(E:LH)(B:Seg)(R:Value→LH→Seg→Prop):Prop:=
 ∀H,Nd E H B→RJ J v args.toArray (mk E H B) (fun v s'=>∃E' B',Le E E'∧R v E' B'∧Nd E' H B'∧s'=mk E' H B')
section
variable {P:Program}{J:Judge P}{Q:Gs_}{b:Frame}{n:Nat}{L:Env}{ds:Ld_}{k:Li_}{cs:Lf_}{E:LH}{H:LH}{S:List Seg}{i:Nat}{rest:List Nat}{d:Option Tmp}{ty e t:TypeId}{p:String}{af:Ae_}{g:On_}{ops:Ao_}
theorem EB.ofFn{f:FuncId}{caps vs:Lv_}{B:Seg}{R:Value→LH→Seg→Prop}(hb:DG P f=true)(h:AR J f (vs++caps) E B R):EB J (.func (.func f) #[] caps.toArray) vs E B R:=fun H K Q c cs O=>by
 simp only [Deferred.ofValue,bind,Sem.bind,pure,invoke]
 have e: #[]++vs.toArray++caps.toArray=(vs++caps).toArray:=by simp
 rw [e];exact IK hb (h H K Q c cs O)
theorem Tn{x:Operand}{O:Value}{args:Array Operand}{ats:Array TypeId}{s:St}{vs:Lv_}{R:Value→St→Prop}
  (V:ops[i]? =some ⟨d,.call ⟨.value x,args,ats⟩,ty,p,af,g⟩) (hw:A8 L ops ⟨d,.call ⟨.value x,args,ats⟩,ty,p,af,g⟩=some true) (U:((b.kind != .early)&&Bt n d)=true)
  (W:ev L x=some O) (Y:evs L args.toList=some vs) (Z:RJ J O vs.toArray s R) (aa:∀v s',R v s'→JL J Q b n (AB L d v) ds (.inRegion ops rest::k) cs s'):
  JL J Q b n L ds (.inRegion ops (i::rest)::k) cs s:=fun T K=>by
 simp only [Bool.and_eq_true] at U
 have ab:args.map (BB T)=vs.toArray:=by
  rw [← Ga K.F2 Y];apply Array.ext';simp
 refine Judge.oper V (CR K hw) (by simpa using U.1) (.inr fun c ae=>by cases ae) ?_;have ah:lp P (execOp (BB T) ⟨d,.call ⟨.value x,args,ats⟩,ty,p,af,g⟩) s (upon J Q b T ds ops i rest k cs d) (Mp J Q b T ds ops i rest k cs):=by
  have ai:execOp (BB T) ⟨d,.call ⟨.value x,args,ats⟩,ty,p,af,g⟩=(do let d ← Deferred.ofValue O vs.toArray;invoke d.target d.args):=by
   simp only [execOp,resolve,ab,K.F2 _ _ W]
  rw [ai];refine Di _ (Z Q (fr b T ds (.inRegion ops (i::rest)::k)) cs fun v s' aj=>?_) (fun nx s' h=>?_) (fun _ _ h=>h.elim)
  ·rw [FW (o:=⟨d,.call ⟨.value x,args,ats⟩,ty,p,af,g⟩) _ _ _ _ _ V];exact aa v s' aj _ (K.put U.2 v)
  ·cases nx <;> first | exact h | exact h.elim
 exact ah
theorem IS{x:Operand}{O:Value}{args:Array Operand}{ats:Array TypeId}{vs:Lv_}{seg:Seg}{R:Value→LH→Seg→Prop}(j:Nat)
  (ab:EB J O vs E seg R) (ae:ops[i]? =some ⟨d,.call ⟨.value x,args,ats⟩,ty,p,af,g⟩) (hw:A8 L ops ⟨d,.call ⟨.value x,args,ats⟩,ty,p,af,g⟩=some true) (ah:((b.kind != .early)&&Bt n d)=true)
  (K:ev L x=some O) (ai:evs L args.toList=some vs) (U:As E H S) (V:S[j]? =some seg) (aj:∀v E' seg',Le E E'→R v E' seg'→As E' H (S.set j seg')→JL J Q b n (AB L d v) ds (.inRegion ops rest::k) cs (Ak E' H (S.set j seg'))):
  JL J Q b n L ds (.inRegion ops (i::rest)::k) cs (Ak E H S):=by
 have W:S.flatten.Perm (seg++(S.set j []).flatten):=(D7 (seg':=seg) V).1.trans List.perm_append_comm;have Y:Nd E H (seg++(S.set j []).flatten):=Nd.perm U W;have ak:Ak E H S=mk E (A7 (S.set j []).flatten H) seg:=by
  rw [show Ak E H S=mk E H S.flatten from rfl,EI U W];unfold mk;rw [FF]
 rw [ak];refine Tn ae hw ah K ai (ab _ (Nd.front Y)) ?_;rintro v s' ⟨E',B',hle,al,am,rfl⟩;have e2:mk E' (A7 (S.set j []).flatten H) B'=mk E' H (B'++(S.set j []).flatten):=by unfold mk;rw [FF]
 have an:Nd E H (S.set j []).flatten:=by
  have:=Y;rw [Nd.iff] at this ⊢;rw [List.map_append,List.nodup_append] at this;exact⟨this.1.2.1,fun q ao=>this.2 q (List.mem_append_right _ ao)⟩
 refine Qh rfl fun⟨w,ap⟩=>?_;have aq:Nd E' H (S.set j []).flatten:=an.grow fun x K=>by
  have ar:=ap.d x K;have au:A7 B' (A7 (S.set j []).flatten H) x=none:=ar;exact(Gy au).1
 have Z:Nd E' H (B'++(S.set j []).flatten):=Nd.glue am aq;rw [e2];have aa:(B'++(S.set j []).flatten).Perm (S.set j B').flatten:=List.perm_append_comm.trans (D7 V).2.symm;rw [EI Z aa];exact aj v E' B' hle al (Nd.perm Z aa)
theorem Pf{bks:List Nat}{m fuel:Nat}{listed:Array Bool}{f:FuncId}{args:Array Operand}{ats:Array TypeId}{vs:Lv_}{seg:Seg}{R:Value→LH→Seg→Prop}(j:Nat)(aj:F0 S bks)(ak:AR J f vs E seg R)(al:∀v E' B',R v E' B'→B'=seg)(am:Region.ready .any ops listed= [i])
  (an:ops[i]? =some ⟨d,.call ⟨.value (.func f),args,ats⟩,ty,p,af,g⟩) (ao:Bt n d=true) (hw:A8 L ops ⟨d,.call ⟨.value (.func f),args,ats⟩,ty,p,af,g⟩=some true) (hb:DG P f=true) (ap:evs L args.toList=some vs) (V:As E H S) (aq:S[j]? =some seg)
  (ar:∀v E',Le E E'→R v E' seg→As E' H S→AQ J Q b n ds ops k cs m (AZ bks) fuel (A6 listed i) (AB L d v) (Ak E' H S)):
  AQ J Q b n ds ops k cs m (AZ bks) (fuel+1) listed L (Ak E H S):=by
 have O:S.flatten.Perm (seg++(S.set j []).flatten):=(D7 (seg':=seg) aq).1.trans List.perm_append_comm;have Z:Nd E H (seg++(S.set j []).flatten):=Nd.perm V O;have au:Ak E H S=mk E (A7 (S.set j []).flatten H) seg:=by
  rw [show Ak E H S=mk E H S.flatten from rfl,EI V O];unfold mk;rw [FF]
 have aa:=DN.Ji (ak (A7 (S.set j []).flatten H) (Nd.front Z)) (by rintro v s' ⟨E',B',_,_,_,rfl⟩;rfl);rw [← au] at aa;refine AQ.call rfl am an ao hw hb ap aa ?_;rintro v aD ⟨⟨E',B',hle,ab,av,rfl⟩,w,aw⟩;obtain rfl:=al _ _ _ ab;have e2:mk E' (A7 (S.set j []).flatten H) B'=mk E' H (B'++(S.set j []).flatten):=by unfold mk;rw [FF]
 have ay:Nd E H (S.set j []).flatten:=by
  have:=Z;rw [Nd.iff] at this ⊢;rw [List.map_append,List.nodup_append] at this;exact⟨this.1.2.1,fun q az=>this.2 q (List.mem_append_right _ az)⟩
 have aA:Nd E' H (S.set j []).flatten:=ay.grow fun x U=>by
  have aB:=aw.d x U;have W:A7 B' (A7 (S.set j []).flatten H) x=none:=aB;exact(Gy W).1
 have ae:Nd E' H (B'++(S.set j []).flatten):=Nd.glue av aA;have ah:As E' H S:=Nd.perm ae O.symm;rw [e2,EI ae O.symm];refine⟨rfl,fun x o U=>?_,ar v E' hle ab ah⟩;by_cases Y:AZ bks x=true
 ·obtain⟨aE,o',ai⟩:=aj.mem x (by simpa [AZ] using Y);have W:(Ak E H S).get x=some o':=Ez (i:=0) V ai rfl;have aC:(Ak E' H S).get x=some o':=Ez (i:=0) ah ai rfl;have K:(if AZ bks x then(Ak E H S).get x else E x)=some o:=U
  show(if AZ bks x then(Ak E' H S).get x else E' x)=some o
  rw [if_pos Y] at K ⊢;rw [aC,← W];exact K
 ·have K:(if AZ bks x then(Ak E H S).get x else E x)=some o:=U
  show(if AZ bks x then(Ak E' H S).get x else E' x)=some o
  rw [if_neg Y] at K ⊢;exact hle _ _ K
theorem Take.Xd{bks:List Nat}{m fuel:Nat}{listed:Array Bool}{f:FuncId}{args:Array Operand}{ats:Array TypeId}{vs:Lv_}{R:Value→LH→Seg→Prop}(ah:F0 S bks)(Y:As E H S)(ai:AR J f vs E [] R)
  (aj:ops[i]? =some ⟨d,.call ⟨.value (.func f),args,ats⟩,ty,p,af,g⟩) (hw:A8 L ops ⟨d,.call ⟨.value (.func f),args,ats⟩,ty,p,af,g⟩=some true) (ak:Bt n d=true) (hb:DG P f=true) (al:evs L args.toList=some vs)
  (am:∀v E' seg',Le E E'→R v E' seg'→As E' H (S++ [seg'])→AQ J Q b n ds ops k cs m (AZ bks) fuel (A6 listed i) (AB L d v) (Ak E' H (S++ [seg']))):
  Take J Q b n ds ops k cs m (AZ bks) fuel listed L (Ak E H S) i:=by
 have an:=DN.Ji (ai (A7 S.flatten H) trivial) (by rintro v s' ⟨E',B',_,_,_,rfl⟩;rfl);refine⟨_,aj,by simp [Db],ak,hw,fun ρ Z=>?_⟩;have ao:args.map ρ=vs.toArray:=by
  rw [← Ga Z al];apply Array.ext';simp
 have ap:ρ (.func f)= .func (.func f) #[] #[]:=Z _ _ rfl;simp only [execOp,resolve,bind,Sem.bind,Deferred.ofValue,ap,pure,invoke];have e: #[]++args.map ρ++ #[]=vs.toArray:=by rw [ao];simp
 rw [e];refine IK hb ?_;rw [JJ];refine⟨_,an,?_⟩;rintro v aA ⟨⟨E',B',hle,aq,ar,rfl⟩,w,au⟩;have e2:mk E' (A7 S.flatten H) B'=mk E' H (B'++S.flatten):=by unfold mk;rw [FF]
 have av:Nd E' H S.flatten:=Nd.grow Y fun x O=>by
  have aw:=au.d x O;have U:A7 B' (A7 S.flatten H) x=none:=aw;exact(Gy U).1
 have aa:Nd E' H (B'++S.flatten):=Nd.glue ar av;have ab:(B'++S.flatten).Perm (S++ [B']).flatten:=by rw [GB];exact List.perm_append_comm
 have ae:As E' H (S++ [B']):=Nd.perm aa ab;rw [e2,EI aa ab];refine⟨rfl,fun x o O=>?_,am v E' B' hle aq ae⟩;by_cases V:AZ bks x=true
 ·obtain⟨j,o',W⟩:=ah.mem x (by simpa [AZ] using V);have U:(Ak E H S).get x=some o':=Ez (i:=0) Y W rfl;have ay:j<S.length:=(List.getElem?_eq_some_iff.1 W).1;have az:(Ak E' H (S++ [B'])).get x=some o':=Ez (i:=0) ae (by rw [List.getElem?_append_left ay];exact W) rfl;have K:(if AZ bks x then(Ak E H S).get x else E x)=some o:=O
  show(if AZ bks x then(Ak E' H (S++ [B'])).get x else E' x)=some o
  rw [if_pos V] at K ⊢;rw [az,← U];exact K
 ·have K:(if AZ bks x then(Ak E H S).get x else E x)=some o:=O
  show(if AZ bks x then(Ak E' H (S++ [B'])).get x else E' x)=some o
  rw [if_neg V] at K ⊢;exact hle _ _ K
theorem Take.Ri{m fuel:Nat}{listed:Array Bool}{f:FuncId}{args:Array Operand}{ats:Array TypeId}{vs:Lv_}{R:Value→LH→Seg→Prop}(O:As E H S)(U:AR J f vs E [] R)
  (V:ops[i]? =some ⟨d,.call ⟨.value (.func f),args,ats⟩,ty,p,af,g⟩) (hw:A8 L ops ⟨d,.call ⟨.value (.func f),args,ats⟩,ty,p,af,g⟩=some true) (W:Bt n d=true) (hb:DG P f=true) (Y:evs L args.toList=some vs)
  (K:∀v E' seg',Le E E'→R v E' seg'→As E' H (S++ [seg'])→AQ J Q b n ds ops k cs m D3 fuel (A6 listed i) (AB L d v) (Ak E' H (S++ [seg']))):
  Take J Q b n ds ops k cs m D3 fuel listed L (Ak E H S) i:=by
 have e:AZ []=D3:=by funext x;rfl
 rw [← e] at K ⊢;exact Take.Xd (bks:= []) trivial O U V hw W hb Y K
end
end Pal
namespace Pal
open Go Go.Conc
open Go.ConcN (upd upd_same upd_ne)
def Dv:Loc→Option Nat | .cell a=>some a.block | .obj r=>some r | _=>none
structure B8 (t:Trace) (w:World) (N:Nat) (S:Nat→St) (Sh:Nat→Prop):Prop where
 fits:∀i,i<N→Fits (S i) w
 hh:∀i j,i<N→j<N→i≠j→∀b,(S i).H b≠none→(S j).H b=none∧(S j).E b=none
 sh:∀i,i<N→∀b,Sh b→(S i).H b=none∧(S i).E b=none
 EZ:∀b,Sh b→b<w.heap.size
 clean:∀said,¬Race said t
 low:∀op∈t,op.act.low w.heap.size
 kH:∀i,i<N→∀b,(S i).H b≠none→∀x a,touchAt t x=some a→Dv a.loc=some b→Knows t i x
 kE:∀i,i<N→∀b,(S i).E b≠none→∀x a,touchAt t x=some a→Dv a.loc=some b→a.write=true→Knows t i x
theorem Ni{t:Trace}{x:Nat}{a:Touch}{b n:Nat}(W:∀op∈t,op.act.low n)(h:touchAt t x=some a)(hb:Dv a.loc=some b):b<n:=by
 obtain⟨op,Y,K⟩:=touch_of h;have O:=W op (mem_of_getElem? Y);cases U:op.act with
 | access e=>
  rw [U] at K O;simp only [MemAct.touch?,Option.some.injEq] at K;subst K;simp only [MemAct.low] at O;cases V:e.loc with
  | cell ad=>rw [V] at O hb;simp only [Dv,Option.some.injEq] at hb;subst hb;exact O
  | obj r=>rw [V] at O hb;simp only [Dv,Option.some.injEq] at hb;subst hb;exact O
  | _=>rw [V] at hb;simp [Dv] at hb
 | mark m=>
  rw [U] at K O;cases m <;> simp only [MemAct.touch?] at K <;> first
   | (simp at K;done)
   | (simp only [Option.some.injEq] at K;subst K;simp only [Dv,Option.some.injEq] at hb;subst hb;exact O)
 | _=>rw [U] at K;simp [MemAct.touch?] at K
theorem Lx{s:St}{w w':World}{e:Event}{a:Touch}{b:Nat}(h:Ev s w w' e)(K:(MemAct.ofEvent e).touch? =some a)(hb:Dv a.loc=some b):
  FI s w w' b a.write:=by
 obtain⟨loc,wr,V⟩:=e;cases loc with
 | cell ad=>
  obtain⟨O,U⟩:=h;simp only at O;subst O;simp only [MemAct.ofEvent,MemAct.touch?,Option.some.injEq] at K;subst K;simp only [Dv,Option.some.injEq] at hb;subst hb;exact U
 | obj r=>
  obtain⟨O,U⟩:=h;simp only at O;subst O;simp only [MemAct.ofEvent,MemAct.touch?,Option.some.injEq] at K;subst K;simp only [Dv,Option.some.injEq] at hb;subst hb;exact U
 | mark m=>
  cases m <;> simp only [Ev] at h <;> first | exact h.elim | simp [MemAct.ofEvent,MemAct.touch?] at K
 | _=>exact h.elim
theorem VU{s:St}{w w':World}{e:Event}(h:Ev s w w' e):(MemAct.ofEvent e).low w'.heap.size:=by
 obtain⟨loc,wr,U⟩:=e;cases loc with
 | cell ad=>obtain⟨K,O⟩:=h;simp only at K;subst K;exact O.1
 | obj r=>obtain⟨K,O⟩:=h;simp only at K;subst K;cases wr <;> exact O.1
 | mark m=>cases m <;> simp only [Ev] at h <;> first | exact h.elim | exact trivial
 | _=>exact h.elim
theorem Sk{l:Loc}(h:l.isMemory=true):∃b,Dv l=some b:=by
 cases l <;> simp [Loc.isMemory] at h <;> exact⟨_,rfl⟩
theorem B8.own{t:Trace}{w w':World}{N:Nat}{S:Nat→St}{Sh:Nat→Prop}(h:B8 t w N S Sh){i:Nat}(hi:i<N){s':St}{fn:FuncId}{pos:String}{es:Array Event}
  (az:Fits s' w') (V:Fr (S i) w s' w') (ak:∀e∈es,Ev (S i) w w' e):B8 (t++MemOp.ofEvents i fn pos es) w' N (upd S i s') Sh:=by
 have ar:∀j,j<N→j≠i→∀b o,((S j).H b=some o∨(S j).E b=some o)→w'.heap[b]? =some o∧(S i).H b=none:=by
  intro j U W b o K;have hw:w.heap[b]? =some o:=K.elim ((h.fits j U).h b o) ((h.fits j U).e b o);have aa:b<w.heap.size:=by
   rcases Nat.lt_or_ge b w.heap.size with an | an
   ·exact an
   ·simp [Array.getElem?_eq_none an] at hw
  have au:(S i).H b=none:=by
   cases aA:(S i).H b with
   | none=>rfl
   | some u=>
    have:=h.hh i j hi U (Ne.symm W) b (by rw [aA];simp);rcases K with K | K
    ·rw [this.1] at K;cases K
    ·rw [this.2] at K;cases K
  exact⟨by rw [V.keep b aa au,hw],au⟩
 have al:∀j,j<N→∀b,w.heap.size≤b→(S j).H b=none∧(S j).E b=none:=by
  intro j U b hb;constructor
  ·cases O:(S j).H b with
   | none=>rfl
   | some o=>have:=(h.fits j U).h b o O;simp [Array.getElem?_eq_none hb] at this
  ·cases O:(S j).E b with
   | none=>rfl
   | some o=>have:=(h.fits j U).e b o O;simp [Array.getElem?_eq_none hb] at this
 have ab:∀op∈MemOp.ofEvents i fn pos es,op.g=i∧∃e∈es,op.act=MemAct.ofEvent e:=by
  intro op ab;obtain⟨e,he,rfl⟩:=mem_ofEvents ab;exact⟨rfl,e,he,rfl⟩
 have hold:∀x a,touchAt t x=some a→touchAt (t++MemOp.ofEvents i fn pos es) x=some a:=by
  intro x a O;obtain⟨op,K,_⟩:=touch_of O;rw [touchAt_old (lt_size_of_getElem? K)];exact O
 have am:∀x a,touchAt (t++MemOp.ofEvents i fn pos es) x=some a→touchAt t x=some a∨(Knows (t++MemOp.ofEvents i fn pos es) i x∧∃e∈es,(MemAct.ofEvent e).touch? =some a):=by
  intro x a O;obtain⟨op,K,av⟩:=touch_of O;rcases getElem?_append_cases K with⟨aa,aB⟩ | ⟨_,aC⟩
  ·left;rw [touchAt_of aB];exact av
  ·right;obtain⟨aD,e,he,ah⟩:=ab op aC;exact⟨by have:=knows_own K;rwa [aD] at this,e,he,by rw [← ah];exact av⟩
 have aE:∀j,j<N→j≠i→∀b,s'.H b≠none→(S j).H b=none∧(S j).E b=none:=by
  intro j U W b hb;rcases V.own b hb with O | O
  ·exact h.hh i j hi U (Ne.symm W) b O
  ·exact al j U b O
 have aF:∀j,j<N→j≠i→∀b,(S j).H b≠none→s'.H b=none∧s'.E b=none:=by
  intro j U W b hb;have Y:=h.hh j i U hi W b hb;have aa:¬w.heap.size≤b:=fun O=>hb (al j U b O).1;constructor
  ·cases O:s'.H b with
   | none=>rfl
   | some o=>
    rcases V.own b (by rw [O];simp) with y | y
    ·exact absurd Y.1 y
    ·exact absurd y aa
  ·cases O:s'.E b with
   | none=>rfl
   | some o=>
    rcases V.Ec b (by rw [O];simp) with y | y | y
    ·exact absurd Y.2 y
    ·exact absurd Y.1 y
    ·exact absurd y aa
 constructor
 ·intro j U;by_cases e:j=i
  ·subst e;rw [upd_same];exact az
  ·rw [upd_ne _ _ e];exact⟨fun b o K=>(ar j U e b o (.inr K)).1,fun b o K=>(ar j U e b o (.inl K)).1,(h.fits j U).d⟩
 ·intro a c aw ai W b hb;by_cases e:a=i
  ·subst e;rw [upd_same] at hb;rw [upd_ne _ _ (Ne.symm W)];exact aE c ai (Ne.symm W) b hb
  ·rw [upd_ne _ _ e] at hb;by_cases ay:c=i
   ·subst ay;rw [upd_same];exact aF a aw W b hb
   ·rw [upd_ne _ _ ay];exact h.hh a c aw ai W b hb
 ·intro j U b hb;by_cases e:j=i
  ·subst e;rw [upd_same];have Y:=h.sh j U b hb;have aa:=h.EZ b hb;constructor
   ·cases O:s'.H b with
    | none=>rfl
    | some o=>
     rcases V.own b (by rw [O];simp) with y | y
     ·exact absurd Y.1 y
     ·omega
   ·cases O:s'.E b with
    | none=>rfl
    | some o=>
     rcases V.Ec b (by rw [O];simp) with y | y | y
     ·exact absurd Y.2 y
     ·exact absurd Y.1 y
     ·omega
  ·rw [upd_ne _ _ e];exact h.sh j U b hb
 ·exact fun b hb=>Nat.lt_of_lt_of_le (h.EZ b hb) V.size
 ·intro said;refine noRace_append (g:=i) (h.clean said) (fun op K=>(ab op K).1) fun x a O op K c ai aG=>?_;obtain⟨_,e,he,ah⟩:=ab op K;rw [ah] at ai;obtain⟨aH,hm,ae,_⟩:=aG;obtain⟨b,hb⟩:=Sk hm;have aI:Dv c.loc=some b:=by rw [← aH];exact hb
  have aj:=Lx (ak e he) ai aI;rcases aj.2 with y | y | ⟨y,ao⟩
  ·exact h.kH i hi b y x a O hb
  ·have:=Ni h.low O hb;omega
  ·rcases ae with z | z
   ·exact h.kE i hi b y x a O hb z
   ·rw [ao] at z;cases z
 ·intro op K;rcases Array.mem_append.1 K with K | K
  ·exact MemAct.low_mono V.size (h.low op K)
  ·obtain⟨_,e,he,ah⟩:=ab op K;rw [ah];exact VU (ak e he)
 ·intro j U b hb x a O Z;by_cases e:j=i
  ·subst e;rw [upd_same] at hb;rcases am x a O with K | ⟨ap,_⟩
   ·rcases V.own b hb with y | y
    ·exact(h.kH j U b y x a K Z).app _
    ·have:=Ni h.low K Z;omega
   ·exact ap
  ·rw [upd_ne _ _ e] at hb;rcases am x a O with K | ⟨_,ev,he,aq⟩
   ·exact(h.kH j U b hb x a K Z).app _
   ·have aj:=Lx (ak ev he) aq Z;have Y:=h.hh j i U hi e b hb;rcases aj.2 with y | y | ⟨y,_⟩
    ·exact absurd Y.1 y
    ·exact absurd (al j U b y).1 hb
    ·exact absurd Y.2 y
 ·intro j U b hb x a O Z ae;by_cases e:j=i
  ·subst e;rw [upd_same] at hb;rcases am x a O with K | ⟨ap,_⟩
   ·rcases V.Ec b hb with y | y | y
    ·exact(h.kE j U b y x a K Z ae).app _
    ·exact(h.kH j U b y x a K Z).app _
    ·have:=Ni h.low K Z;omega
   ·exact ap
  ·rw [upd_ne _ _ e] at hb;rcases am x a O with K | ⟨_,ev,he,aq⟩
   ·exact(h.kE j U b hb x a K Z ae).app _
   ·have aj:=Lx (ak ev he) aq Z;rcases aj.2 with y | y | ⟨_,ao⟩
    ·exact absurd ((h.hh i j hi U (Ne.symm e) b y).2) hb
    ·exact absurd (al j U b y).2 hb
    ·rw [ao] at ae;cases ae
theorem B8.mute{t u:Trace}{w w':World}{N:Nat}{S:Nat→St}{Sh:Nat→Prop}(h:B8 t w N S Sh){g:Nat}(hu:∀op∈u,op.g=g)(W:∀op∈u,op.act.touch? =none)(aa:∀op∈u,op.act.low w'.heap.size)(hw:w'.heap=w.heap):B8 (t++u) w' N S Sh:=by
 have Y:∀x a,touchAt (t++u) x=some a→touchAt t x=some a:=by
  intro x a O;obtain⟨op,K,U⟩:=touch_of O;rcases getElem?_append_cases K with⟨ai,ab⟩ | ⟨_,ae⟩
  ·rw [touchAt_of ab];exact U
  ·rw [W op ae] at U;cases U
 exact⟨fun i hi=>⟨fun b o K=>by rw [hw];exact(h.fits i hi).e b o K,fun b o K=>by rw [hw];exact(h.fits i hi).h b o K,(h.fits i hi).d⟩,h.hh,h.sh,fun b hb=>by rw [hw];exact h.EZ b hb,
  fun said=>noRace_append (g:=g) (h.clean said) hu (fun x a _ op K c Z _=>by rw [W op K] at Z;cases Z),
  fun op K=>(Array.mem_append.1 K).elim (fun K=>by rw [hw];exact h.low op K) (aa op),
  fun i hi b hb x a O V=>(h.kH i hi b hb x a (Y x a O) V).app _,fun i hi b hb x a O V ah=>(h.kE i hi b hb x a (Y x a O) V ah).app _⟩
theorem B8.ghost{t:Trace}{w:World}{N:Nat}{S:Nat→St}{Sh:Nat→Prop}(h:B8 t w N S Sh){i:Nat}(hi:i<N){s₀:St}(Z:CV (S i) s₀):B8 t w N (upd S i s₀) Sh:=by
 have W:∀b,s₀.H b≠none→(S i).H b≠none:=fun b hb=>by obtain⟨o,aa⟩:=G0 hb;rw [Z.own b o aa];simp
 have ab:∀b,s₀.E b≠none→(S i).E b≠none∨(S i).H b≠none:=fun b hb=>by
  obtain⟨o,aa⟩:=G0 hb;rcases Z.Ec b o aa with x | x
  ·exact .inl (by rw [x];simp)
  ·exact .inr (by rw [x.1];simp)
 have Iv:∀{x:Option Obj},¬x≠none→x=none:=fun h=>Classical.not_not.1 h;constructor
 ·intro j K;by_cases e:j=i
  ·subst e;rw [upd_same];exact Z.fits (h.fits j K)
  ·rw [upd_ne _ _ e];exact h.fits j K
 ·intro a c ae ah Y b hb;by_cases e:a=i
  ·subst e;rw [upd_same] at hb;rw [upd_ne _ _ (Ne.symm Y)];exact h.hh a c ae ah Y b (W b hb)
  ·rw [upd_ne _ _ e] at hb;by_cases ai:c=i
   ·subst ai;rw [upd_same];have O:=h.hh a c ae ah Y b hb;exact⟨Iv fun x=>W b x O.1,Iv fun x=>(ab b x).elim (fun y=>y O.2) fun y=>y O.1⟩
   ·rw [upd_ne _ _ ai];exact h.hh a c ae ah Y b hb
 ·intro j K b hb;by_cases e:j=i
  ·subst e;rw [upd_same];have O:=h.sh j K b hb;exact⟨Iv fun x=>W b x O.1,Iv fun x=>(ab b x).elim (fun y=>y O.2) fun y=>y O.1⟩
  ·rw [upd_ne _ _ e];exact h.sh j K b hb
 ·exact h.EZ
 ·exact h.clean
 ·exact h.low
 ·intro j K b hb x a U V;by_cases e:j=i
  ·subst e;rw [upd_same] at hb;exact h.kH j K b (W b hb) x a U V
  ·rw [upd_ne _ _ e] at hb;exact h.kH j K b hb x a U V
 ·intro j K b hb x a U V aj;by_cases e:j=i
  ·subst e;rw [upd_same] at hb;rcases ab b hb with y | y
   ·exact h.kE j K b y x a U V aj
   ·exact h.kH j K b y x a U V
  ·rw [upd_ne _ _ e] at hb;exact h.kE j K b hb x a U V aj
end Pal
