/- ToothChecks. Part 1 of 8. -/
import Derived.Conc.Own5
import Derived.Conc.Listed
import Derived.Conc.DeferLaws
import Derived.Orders
set_option linter.all false
set_option maxRecDepth 100000
namespace Pal
open Go Go.Conc
abbrev LH:=Nat→Option Obj
structure St where
 E:LH
 H:LH
 q:Bool
def St.get(s:St)(b:Nat):Option Obj:=match s.E b with | some o=>some o | none=>s.H b
structure Fits (s:St) (w:World):Prop where
 e:∀b o,s.E b=some o→w.heap[b]? =some o
 h:∀b o,s.H b=some o→w.heap[b]? =some o
 d:∀b,s.E b≠none→s.H b=none
theorem Fits.get{s:St}{w:World}(f:Fits s w){b:Nat}{o:Obj}(h:s.get b=some o):w.heap[b]? =some o:=by
 unfold St.get at h;split at h
 ·rename_i o' K;cases h;exact f.e _ _ K
 ·exact f.h _ _ h
theorem Fits.P8{s:St}{w:World}(f:Fits s w){b:Nat}{o:Obj}(h:s.H b=some o):b<w.heap.size:=by
 have:=f.h _ _ h;rcases Nat.lt_or_ge b w.heap.size with K | K
 ·exact K
 ·simp [Array.getElem?_eq_none K] at this
theorem Fits.lt{s:St}{w:World}(f:Fits s w){b:Nat}{o:Obj}(h:s.get b=some o):b<w.heap.size:=by
 have:=f.get h;rcases Nat.lt_or_ge b w.heap.size with K | K
 ·exact K
 ·simp [Array.getElem?_eq_none K] at this
def cellAt(o:Obj)(a:Addr):Option Value:=match o with | .cells c _ _=>if a.spot.isSome then none else c[a.off]? | _=>none
def frozenAt(o:Obj)(a:Addr):Bool:=match o with | .cells _ _ (lo,hi)=>lo≤a.off&&a.off<hi | _=>false
def shapeOf(o:Obj):Option (TypeId×Nat):=match o with | .cells c e _=>some (e,c.size) | _=>none
def Ba:Value→Bool | .agg _ | .tuple _=>false | _=>true
def GG(o:Obj)(a:Addr)(v:Value):Obj:=match o with | .cells c e f=> .cells (if a.spot.isSome then c else c.setIfInBounds a.off v) e f | o=>o
def F9(o:Obj):Bool:=match o with | .cells ..=>false | .chan ..=>false | .pending ..=>false | .view ..=>false | .number ..=>false | _=>true
def St.cell? (s:St)(a:Addr):Option Value:=(s.get a.block).bind (cellAt · a)
def St.upd(s:St)(b:Nat)(o:Obj):St:={s with H:=fun x=>if x=b then some o else s.H x}
theorem MZ{w:World}{a:Addr}{o:Obj}(h:w.heap[a.block]? =some o):w.cell? a=cellAt o a:=by
 unfold World.cell? cellAt;rw [h];cases o <;> rfl
theorem MD{w:World}{a:Addr}{o:Obj}(h:w.heap[a.block]? =some o):w.frozen? a=frozenAt o a:=by
 unfold World.frozen? frozenAt;rw [h];cases o <;> rfl
theorem Qt{w:World}{b:Nat}{o:Obj}(h:w.heap[b]? =some o):w.shape? b=shapeOf o:=by
 unfold World.shape? shapeOf;rw [h];cases o <;> rfl
def lp(P:Program){α:Type}:Sem α→St→(α→St→Prop)→(Halt→St→Prop)→Prop
 | .pure a,s,Q,_=>Q a s
 | .load m a k,s,Q,X=>m= .plain∧∃v,s.cell? a=some v∧lp P (k v) s Q X
 | .store m a v k,s,Q,X=>m= .plain∧Ba v=true∧∃o,s.H a.block=some o∧(cellAt o a).isSome=true∧frozenAt o a=false∧lp P k (s.upd a.block (GG o a v)) Q X
 | .new o k,s,Q,X=>s.q=false∧∀r,s.E r=none→s.H r=none→lp P (k r) (s.upd r o) Q X
 | .shape r k,s,Q,X=>∃o,s.get r=some o∧lp P (k (shapeOf o)) s Q X
 | .freeze _ _ _,_,_,_=>False
 | .frozen a k,s,Q,X=>∃o,s.get a.block=some o∧lp P (k (frozenAt o a)) s Q X
 | .getObj r k,s,Q,X=>∃o,s.get r=some o∧F9 o=true∧lp P (k o) s Q X
 | .setObj r o k,s,Q,X=>(∃o₀,s.H r=some o₀∧F9 o₀=true)∧F9 o=true∧lp P k (s.upd r o) Q X
 | .choose q k,s,Q,X=>if q.forced then lp P (k 0) s Q X else s.q=false∧∀t,lp P (k (q.cut t)) s Q X
 | .sys _ _,_,_,_=>False
 | .program k,s,Q,X=>lp P (k P) s Q X
 | .mark m k,s,Q,X=>((s.q=false∧m= .noRoom)∨∃f,m= .extern f)∧lp P k s Q X
 | .halt h,s,_,X=>X h s
theorem BS{P:Program}{α:Type}(x:Sem α):∀{s:St} {Q V:α→St→Prop} {X Y:Halt→St→Prop},lp P x s Q X→(∀a s,Q a s→V a s)→(∀h s,X h s→Y h s)→lp P x s V Y:=by
 induction x with
 | pure a=>intro s Q V X Y h K O;exact K _ _ h
 | load m a k U=>intro s Q V X Y h K O;obtain⟨Z,v,aa,h3⟩:=h;exact⟨Z,v,aa,U _ h3 K O⟩
 | store m a v k U=>intro s Q V X Y h K O;obtain⟨Z,aa,o,h3,ac,ae,h6⟩:=h;exact⟨Z,aa,o,h3,ac,ae,U h6 K O⟩
 | new o k U=>intro s Q V X Y h K O;exact⟨h.1,fun r Z aa=>U _ (h.2 r Z aa) K O⟩
 | shape r k U=>intro s Q V X Y h K O;obtain⟨o,Z,aa⟩:=h;exact⟨o,Z,U _ aa K O⟩
 | freeze a n k U=>intro s Q V X Y h K O;exact h
 | frozen a k U=>intro s Q V X Y h K O;obtain⟨o,Z,aa⟩:=h;exact⟨o,Z,U _ aa K O⟩
 | getObj r k U=>intro s Q V X Y h K O;obtain⟨o,Z,aa,h3⟩:=h;exact⟨o,Z,aa,U _ h3 K O⟩
 | setObj r o k U=>intro s Q V X Y h K O;obtain⟨Z,aa,h3⟩:=h;exact⟨Z,aa,U h3 K O⟩
 | choose q k U=>
  intro s Q V X Y h K O;simp only [lp] at h ⊢;split
  ·rename_i ab;rw [if_pos ab] at h;exact U _ h K O
  ·rename_i ab;rw [if_neg ab] at h;exact⟨h.1,fun t=>U _ (h.2 t) K O⟩
 | sys c k U=>intro s Q V X Y h K O;exact h
 | program k U=>intro s Q V X Y h K O;exact U _ h K O
 | mark m k U=>intro s Q V X Y h K O;exact⟨h.1,U h.2 K O⟩
 | halt h=>intro s Q V X Y h K O;exact O _ _ h
theorem Ah{P:Program}{α β:Type}(x:Sem α)(f:α→Sem β):∀{s:St} {Q:β→St→Prop} {X:Halt→St→Prop},lp P x s (fun a s'=>lp P (f a) s' Q X) X→lp P (x>>=f) s Q X:=by
 show ∀{s:St} {Q:β→St→Prop} {X:Halt→St→Prop},lp P x s (fun a s'=>lp P (f a) s' Q X) X→lp P (Sem.bind x f) s Q X
 induction x with
 | pure a=>intro s Q X h;exact h
 | load m a k K=>intro s Q X h;obtain⟨O,v,U,h3⟩:=h;exact⟨O,v,U,K _ h3⟩
 | store m a v k K=>intro s Q X h;obtain⟨O,U,o,h3,Y,Z,h6⟩:=h;exact⟨O,U,o,h3,Y,Z,K h6⟩
 | new o k K=>intro s Q X h;exact⟨h.1,fun r O U=>K _ (h.2 r O U)⟩
 | shape r k K=>intro s Q X h;obtain⟨o,O,U⟩:=h;exact⟨o,O,K _ U⟩
 | freeze a n k K=>intro s Q X h;exact h
 | frozen a k K=>intro s Q X h;obtain⟨o,O,U⟩:=h;exact⟨o,O,K _ U⟩
 | getObj r k K=>intro s Q X h;obtain⟨o,O,U,h3⟩:=h;exact⟨o,O,U,K _ h3⟩
 | setObj r o k K=>intro s Q X h;obtain⟨O,U,h3⟩:=h;exact⟨O,U,K h3⟩
 | choose q k K=>
  intro s Q X h;simp only [lp,Sem.bind] at h ⊢;split
  ·rename_i V;rw [if_pos V] at h;exact K _ h
  ·rename_i V;rw [if_neg V] at h;exact⟨h.1,fun t=>K _ (h.2 t)⟩
 | sys c k K=>intro s Q X h;exact h
 | program k K=>intro s Q X h;exact K _ h
 | mark m k K=>intro s Q X h;exact⟨h.1,K h.2⟩
 | halt h=>intro s Q X h;exact h
structure Fr (s:St) (w:World) (s':St) (w':World):Prop where
 size:w.heap.size≤w'.heap.size
 keep:∀b,b<w.heap.size→s.H b=none→w'.heap[b]? =w.heap[b]?
 own:∀b,s'.H b≠none→s.H b≠none∨w.heap.size≤b
 ext:∀b o,s.E b=some o→s'.E b=some o
 CG:∀b,s'.E b≠none→s.E b≠none∨s.H b≠none∨w.heap.size≤b
 tape:w'.tape=w.tape
 os:w'.os=w.os
 output:w'.output=w.output
theorem Fr.refl(s:St)(w:World):Fr s w s w:=
 ⟨Nat.le_refl _,fun _ _ _=>rfl,fun _ h=> .inl h,fun _ _ h=>h,fun _ h=> .inl h,rfl,rfl,rfl⟩
theorem Fr.trans{s K O:St}{w U V:World}(h:Fr s w K U)(k:Fr K U O V):Fr s w O V where
 size:=Nat.le_trans h.size k.size
 keep b hb Y:=by
  rw [k.keep b (Nat.lt_of_lt_of_le hb h.size) ?_,h.keep b hb Y];by_cases Z:K.H b=none
  ·exact Z
  ·rcases h.own b Z with x | x
   ·exact absurd Y x
   ·omega
 own b hb:=by
  rcases k.own b hb with x | x
  ·exact h.own b x
  ·exact .inr (Nat.le_trans h.size x)
 ext b o aa:=k.ext b o (h.ext b o aa)
 CG b hb:=by
  rcases k.CG b hb with x | x | x
  ·exact h.CG b x
  ·rcases h.own b x with y | y
   ·exact .inr (.inl y)
   ·exact .inr (.inr y)
  ·exact .inr (.inr (Nat.le_trans h.size x))
 tape:=k.tape.trans h.tape
 os:=k.os.trans h.os
 output:=k.output.trans h.output
def DX(s:St)(w w':World)(b:Nat)(write:Bool):Prop:=
 b<w'.heap.size∧(s.H b≠none∨w.heap.size≤b∨(s.E b≠none∧write=false))
def Ev(s:St)(w w':World)(e:Event):Prop:=
 match e.loc with
 | .cell a=>e.sync=false∧DX s w w' a.block e.write
 | .obj r=>e.sync=false∧DX s w w' r e.write
 | .mark (.extern _)=>True
 | .mark .noRoom=>True
 | _=>False
theorem DX.moq{s K:St}{w O w' U:World}{b:Nat}{wr:Bool}(h:Fr s w K O)(hs:w'.heap.size≤U.heap.size)(t:DX K O w' b wr):DX s w U b wr:=by
 refine⟨Nat.lt_of_lt_of_le t.1 hs,?_⟩;rcases t.2 with x | x | ⟨x,y⟩
 ·rcases h.own b x with z | z
  ·exact .inl z
  ·exact .inr (.inl z)
 ·exact .inr (.inl (Nat.le_trans h.size x))
 ·rcases h.CG b x with z | z | z
  ·exact .inr (.inr ⟨z,y⟩)
  ·exact .inl z
  ·exact .inr (.inl z)
theorem Ev.moq{s K:St}{w O w' U:World}{e:Event}(h:Fr s w K O)(hs:w'.heap.size≤U.heap.size)(t:Ev K O w' e):Ev s w U e:=by
 unfold Ev at t ⊢;split <;> rename_i he <;> simp only [he] at t
 ·exact⟨t.1,t.2.moq h hs⟩
 ·exact⟨t.1,t.2.moq h hs⟩
 ·trivial
 ·trivial
def GM{α:Type}:Result α→World | .ok _ w=>w | .halt _ w=>w
def Ul{α:Type}(Q:α→St→Prop)(X:Halt→St→Prop)(s:St):Result α→Prop | .ok a _=>Q a s | .halt h _=>X h s
theorem NZ{s:St}{b:Nat}{o:Obj}(h:s.get b=some o)(K:s.H b=none):s.E b≠none:=by
 intro e;unfold St.get at h;rw [e] at h;simp only at h;rw [K] at h;cases h
theorem Lr{s:St}{w w':World}{b:Nat}{o:Obj}(f:Fits s w)(U:s.E b=none)(hb:w'.heap[b]? =some o)(V:∀c,c≠b→∀x,w.heap[c]? =some x→w'.heap[c]? =some x):Fits (s.upd b o) w' where
 e c x K:=by
  have O:c≠b:=fun e=>by subst e;simp [St.upd] at K;rw [U] at K;cases K
  exact V c O x (f.e c x K)
 h c x K:=by
  simp only [St.upd] at K;split at K
  ·rename_i e;subst e;cases K;exact hb
  ·rename_i O;exact V c O x (f.h c x K)
 d c K:=by
  have O:c≠b:=fun e=>by subst e;exact K U
  simp only [St.upd,if_neg O];exact f.d c K
theorem I9{P:Program}{α:Type}(x:Sem α):∀{s:St} {w:World} {Q:α→St→Prop} {X:Halt→St→Prop},lp P x s Q X→Fits s w→
  ∃s',Fits s' (GM (x.run P w))∧Fr s w s' (GM (x.run P w))∧(∀e∈x.events P w #[],Ev s w (GM (x.run P w)) e)∧Ul Q X s' (x.run P w):=by
 induction x with
 | pure a=>intro s w Q X h f;exact⟨s,f,.refl _ _,by simp [Sem.events_pure'],h⟩
 | load m a k O=>
  intro s w Q X h f;obtain⟨rfl,v,ao,h⟩:=h;obtain⟨o,K,aB⟩:=Option.bind_eq_some_iff.1 ao;have hw:=f.get K;have ap:w.cell? a=some v:=by rw [MZ hw,aB]
  have U:(Sem.load Mode.plain a k).run P w=(k v).run P w:=by simp [Sem.run,ap]
  have V:(Sem.load Mode.plain a k).events P w #[]= #[⟨.cell a,false,false⟩]++(k v).events P w #[]:=by
   rw [← Sem.events_acc];simp only [Sem.events,Sem.runT,ap];rfl
  rw [U,V];obtain⟨s',Z,Y,h3,aa⟩:=O v h f;refine⟨s',Z,Y,fun e he=>?_,aa⟩;rcases Array.mem_append.1 he with he | he
  ·simp at he;subst he;refine⟨rfl,Nat.lt_of_lt_of_le (f.lt K) Y.size,?_⟩;by_cases aj:s.H a.block=none
   ·refine .inr (.inr ⟨?_,rfl⟩);exact NZ K aj
   ·exact .inl aj
  ·exact h3 e he
 | store m a v k O=>
  intro s w Q X h f;obtain⟨rfl,ao,o,K,ap,aC,h⟩:=h;have hw:=f.h _ _ K;obtain⟨u,hu⟩:=Option.isSome_iff_exists.1 ap;have aw:w.cell? a=some u:=by rw [MZ hw,hu]
  have ay:w.frozen? a=false:=by rw [MD hw,aC]
  have aq:=f.P8 K;obtain⟨au,av,f0,rfl⟩:∃c e f,o= .cells c e f:=by cases o <;> simp [cellAt] at hu;exact⟨_,_,_,rfl⟩
  have aD:(w.setCell a v).heap[a.block]? =some (GG (.cells au av f0) a v):=by
   simp [World.setCell,GG,Array.getElem?_modify,hw]
  have ak:∀c,c≠a.block→(w.setCell a v).heap[c]? =w.heap[c]? :=by
   intro c ae;simp [World.setCell,Array.getElem?_modify,Ne.symm ae]
  have ac:s.E a.block=none:=by
   cases ac:s.E a.block with
   | none=>rfl
   | some x=>have:=f.d a.block (by rw [ac];simp);rw [K] at this;cases this
  have al:Fits (s.upd a.block (GG (.cells au av f0) a v)) (w.setCell a v):=Lr f ac aD (fun c ae x ag=>by rw [ak c ae];exact ag);have U:(Sem.store Mode.plain a v k).run P w=k.run P (w.setCell a v):=by
   cases v <;> first | (simp [Ba] at ao;done) | simp [Sem.run,aw,ay]
  have V:(Sem.store Mode.plain a v k).events P w #[]= #[⟨.cell a,true,false⟩]++k.events P (w.setCell a v) #[]:=by
   rw [← Sem.events_acc];cases v <;> first | (simp [Ba] at ao;done) | (simp only [Sem.events,Sem.runT,aw,ay];rfl)
  have ab:Fr s w (s.upd a.block (GG (.cells au av f0) a v)) (w.setCell a v):=by
   refine⟨by simp [World.setCell],fun b hb ah=>ak b (fun e=>by subst e;rw [K] at ah;cases ah),fun b hb=>?_,fun _ _ h=>h,fun _ h=> .inl h,rfl,rfl,rfl⟩;simp only [St.upd] at hb;split at hb
   ·rename_i e;subst e;exact .inl (by rw [K];simp)
   ·exact .inl hb
  rw [U,V];obtain⟨s',Z,Y,h3,aa⟩:=O h al;refine⟨s',Z,ab.trans Y,fun e he=>?_,aa⟩;rcases Array.mem_append.1 he with he | he
  ·simp at he;subst he;exact⟨rfl,Nat.lt_of_lt_of_le aq (ab.trans Y).size,.inl (by rw [K];simp)⟩
  ·exact(h3 e he).moq ab (Nat.le_refl _)
 | new o k O=>
  intro s w Q X h f;have az:s.E w.heap.size=none:=by
   cases ac:s.E w.heap.size with
   | none=>rfl
   | some x=>have:=f.e _ _ ac;simp at this
  have aE:s.H w.heap.size=none:=by
   cases ac:s.H w.heap.size with
   | none=>rfl
   | some x=>have:=f.h _ _ ac;simp at this
  have U:(Sem.new o k).run P w=(k w.heap.size).run P {w with heap:=w.heap.push o}:=by simp [Sem.run]
  have V:(Sem.new o k).events P w #[]=(k w.heap.size).events P {w with heap:=w.heap.push o} #[]:=by simp only [Sem.events,Sem.runT]
  rw [U,V];have al:Fits (s.upd w.heap.size o) {w with heap:=w.heap.push o}:=Lr f az (by simp) (fun c ae x ag=>by
   have:c<w.heap.size:=by
    rcases Nat.lt_or_ge c w.heap.size with am | am
    ·exact am
    ·simp [Array.getElem?_eq_none am] at ag
   simp [Array.getElem?_push,Nat.ne_of_lt this,ag])
  have ab:Fr s w (s.upd w.heap.size o) {w with heap:=w.heap.push o}:=by
   refine⟨by simp,fun b hb ah=>by simp [Array.getElem?_push,Nat.ne_of_lt hb],fun b hb=>?_,fun _ _ h=>h,fun _ h=> .inl h,rfl,rfl,rfl⟩;simp only [St.upd] at hb;split at hb
   ·rename_i e;subst e;exact .inr (Nat.le_refl _)
   ·exact .inl hb
  obtain⟨s',Z,Y,h3,aa⟩:=O _ (h.2 _ az aE) al;exact⟨s',Z,ab.trans Y,fun e he=>(h3 e he).moq ab (Nat.le_refl _),aa⟩
 | shape r k O=>
  intro s w Q X h f;obtain⟨o,K,h⟩:=h;have an:=Qt (f.get K);have U:(Sem.shape r k).run P w=(k (shapeOf o)).run P w:=by simp [Sem.run,an]
  have V:(Sem.shape r k).events P w #[]=(k (shapeOf o)).events P w #[]:=by simp only [Sem.events,Sem.runT,an]
  rw [U,V];exact O _ h f
 | freeze a n k O=>intro s w Q X h f;exact h.elim
 | frozen a k O=>
  intro s w Q X h f;obtain⟨o,K,h⟩:=h;have an:=MD (a:=a) (f.get K);have U:(Sem.frozen a k).run P w=(k (frozenAt o a)).run P w:=by simp [Sem.run,an]
  have V:(Sem.frozen a k).events P w #[]=(k (frozenAt o a)).events P w #[]:=by simp only [Sem.events,Sem.runT,an]
  rw [U,V];exact O _ h f
 | getObj r k O=>
  intro s w Q X h f;obtain⟨o,K,ar,h⟩:=h;have hw:=f.get K;have U:(Sem.getObj r k).run P w=(k o).run P w:=by cases o <;> simp [F9] at ar <;> simp [Sem.run,hw]
  have V:(Sem.getObj r k).events P w #[]= #[⟨.obj r,false,false⟩]++(k o).events P w #[]:=by
   rw [← Sem.events_acc];cases o <;> simp [F9] at ar <;> (simp only [Sem.events,Sem.runT,hw,Obj.isChan];rfl)
  rw [U,V];obtain⟨s',Z,Y,h3,aa⟩:=O o h f;refine⟨s',Z,Y,fun e he=>?_,aa⟩;rcases Array.mem_append.1 he with he | he
  ·simp at he;subst he;refine⟨rfl,Nat.lt_of_lt_of_le (f.lt K) Y.size,?_⟩;by_cases aj:s.H r=none
   ·refine .inr (.inr ⟨?_,rfl⟩);exact NZ K aj
   ·exact .inl aj
  ·exact h3 e he
 | setObj r o k O=>
  intro s w Q X h f;obtain⟨⟨o₀,K,aA⟩,ar,h⟩:=h;have hw:=f.h _ _ K;have aq:=f.P8 K;have ac:s.E r=none:=by
   cases ac:s.E r with
   | none=>rfl
   | some x=>have:=f.d r (by rw [ac];simp);rw [K] at this;cases this
  have U:(Sem.setObj r o k).run P w=k.run P {w with heap:=w.heap.setIfInBounds r o}:=by
   cases o₀ <;> simp [F9] at aA <;> simp [Sem.run,hw]
  have V:(Sem.setObj r o k).events P w #[]= #[⟨.obj r,true,false⟩]++k.events P {w with heap:=w.heap.setIfInBounds r o} #[]:=by
   rw [← Sem.events_acc];cases o₀ <;> simp [F9] at aA <;> cases o <;> simp [F9] at ar <;> (simp only [Sem.events,Sem.runT,hw,Obj.isChan];rfl)
  have ak:∀c,c≠r→(w.heap.setIfInBounds r o)[c]? =w.heap[c]? :=fun c ae=>by simp [Ne.symm ae]
  have al:Fits (s.upd r o) {w with heap:=w.heap.setIfInBounds r o}:=Lr f ac (by simp [aq]) (fun c ae x ag=>by show(w.heap.setIfInBounds r o)[c]? =_;rw [ak c ae];exact ag);have ab:Fr s w (s.upd r o) {w with heap:=w.heap.setIfInBounds r o}:=by
   refine⟨by simp,fun b hb ah=>ak b (fun e=>by subst e;rw [K] at ah;cases ah),fun b hb=>?_,fun _ _ h=>h,fun _ h=> .inl h,rfl,rfl,rfl⟩;simp only [St.upd] at hb;split at hb
   ·rename_i e;subst e;exact .inl (by rw [K];simp)
   ·exact .inl hb
  rw [U,V];obtain⟨s',Z,Y,h3,aa⟩:=O h al;refine⟨s',Z,ab.trans Y,fun e he=>?_,aa⟩;rcases Array.mem_append.1 he with he | he
  ·simp at he;subst he;exact⟨rfl,Nat.lt_of_lt_of_le aq (ab.trans Y).size,.inl (by rw [K];simp)⟩
  ·exact(h3 e he).moq ab (Nat.le_refl _)
 | choose q k O=>
  intro s w Q X h f;simp only [lp] at h;by_cases ai:q.forced
  ·rw [if_pos ai] at h;have U:(Sem.choose q k).run P w=(k 0).run P w:=by simp [Sem.run,ai]
   have V:(Sem.choose q k).events P w #[]=(k 0).events P w #[]:=by simp only [Sem.events,Sem.runT];rw [if_pos ai]
   rw [U,V];exact O _ h f
  ·rw [if_neg ai] at h;have U:(Sem.choose q k).run P w=(k (q.cut (w.tape w.drawn q))).run P {w with drawn:=w.drawn+1}:=by simp [Sem.run,ai]
   have V:(Sem.choose q k).events P w #[]=(k (q.cut (w.tape w.drawn q))).events P {w with drawn:=w.drawn+1} #[]:=by simp only [Sem.events,Sem.runT];rw [if_neg ai]
   rw [U,V];have ab:Fr s w s {w with drawn:=w.drawn+1}:=⟨Nat.le_refl _,fun _ _ _=>rfl,fun _ h=> .inl h,fun _ _ h=>h,fun _ h=> .inl h,rfl,rfl,rfl⟩;obtain⟨s',Z,Y,h3,aa⟩:=O _ (h.2 (w.tape w.drawn q)) (⟨f.e,f.h,f.d⟩:Fits s {w with drawn:=w.drawn+1});exact⟨s',Z,ab.trans Y,fun e he=>(h3 e he).moq ab (Nat.le_refl _),aa⟩
 | sys c k O=>intro s w Q X h f;exact h.elim
 | program k O=>
  intro s w Q X h f;have U:(Sem.program k).run P w=(k P).run P w:=by simp [Sem.run]
  have V:(Sem.program k).events P w #[]=(k P).events P w #[]:=by simp only [Sem.events,Sem.runT]
  rw [U,V];exact O _ h f
 | mark m k O=>
  intro s w Q X h f;have U:(Sem.mark m k).run P w=k.run P w:=by simp [Sem.run]
  have V:(Sem.mark m k).events P w #[]= #[⟨.mark m,false,true⟩]++k.events P w #[]:=by
   rw [← Sem.events_acc];simp only [Sem.events,Sem.runT];rfl
  rw [U,V];obtain⟨hm,h⟩:=h;obtain⟨s',Z,Y,h3,aa⟩:=O h f;refine⟨s',Z,Y,fun e he=>?_,aa⟩;rcases Array.mem_append.1 he with he | he
  ·simp at he;subst he;rcases hm with⟨_,rfl⟩ | ⟨g,rfl⟩ <;> trivial
  ·exact h3 e he
 | halt h=>intro s w Q X am f;exact⟨s,f,.refl _ _,by simp [Sem.events_halt],am⟩
theorem KZ{P:Program}{fn:FuncId}{es:Array Event}(h:∀e∈es,∃f,e.loc= .mark (.extern f)):seen P fn es= #[]:=by
 rw [seen_def];have:∀(l:List Event) (q:Bool),(∀e∈l,∃f,e.loc= .mark (.extern f))→(l.foldl (seenStep fun f=>(P.funcs[f]?).any (·.norace)) (q,#[])).2= #[]:=by
  intro l
  induction l with
  | nil=>intro q _;rfl
  | cons e l K=>
   intro q h;obtain⟨f,O⟩:=h e (by simp);rw [List.foldl_cons];have:seenStep (fun f=>(P.funcs[f]?).any (·.norace)) (q,#[]) e=((P.funcs[f]?).any (·.norace),#[]):=by simp [seenStep,O]
   rw [this];exact K _ fun x U=>h x (by simp [U])
 exact this es.toList _ fun e he=>h e (Array.mem_toList_iff.1 he)
def St.quiet:St:=⟨fun _=>none,fun _=>none,true⟩
theorem Lu{P:Program}{α:Type}(x:Sem α):∀{Q:α→St→Prop} {X:Halt→St→Prop},lp P x .quiet Q X→
  ∃es,(∀w,x.events P w #[]=es)∧(∀e∈es,∃f,e.loc= .mark (.extern f))∧((∃a,Q a .quiet∧(∀w,x.run P w= .ok a w))∨(∃a,X a .quiet∧(∀w,x.run P w= .halt a w))):=by
 induction x with
 | pure a=>intro Q X h;exact⟨#[],fun w=>by simp [Sem.events_pure'],by simp,.inl ⟨a,h,fun w=>rfl⟩⟩
 | load m a k K=>intro Q X h;obtain⟨_,v,Z,_⟩:=h;simp [St.cell?,St.get,St.quiet] at Z
 | store m a v k K=>intro Q X h;obtain⟨_,_,o,h3,_⟩:=h;cases h3
 | new o k K=>intro Q X h;cases h.1
 | shape r k K=>intro Q X h;obtain⟨o,O,_⟩:=h;simp [St.get,St.quiet] at O
 | freeze a n k K=>intro Q X h;exact h.elim
 | frozen a k K=>intro Q X h;obtain⟨o,O,_⟩:=h;simp [St.get,St.quiet] at O
 | getObj r k K=>intro Q X h;obtain⟨o,O,_⟩:=h;simp [St.get,St.quiet] at O
 | setObj r o k K=>intro Q X h;obtain⟨⟨o,O,_⟩,_⟩:=h;cases O
 | choose q k K=>
  intro Q X h;simp only [lp] at h;by_cases U:q.forced
  ·rw [if_pos U] at h;have V:∀w,(Sem.choose q k).run P w=(k 0).run P w:=fun w=>by simp [Sem.run,U]
   have Y:∀w,(Sem.choose q k).events P w #[]=(k 0).events P w #[]:=fun w=>by simp only [Sem.events,Sem.runT];rw [if_pos U]
   simpa only [V,Y] using K _ h
  ·rw [if_neg U] at h;cases h.1
 | sys c k K=>intro Q X h;exact h.elim
 | program k K=>
  intro Q X h;have V:∀w,(Sem.program k).run P w=(k P).run P w:=fun w=>by simp [Sem.run]
  have Y:∀w,(Sem.program k).events P w #[]=(k P).events P w #[]:=fun w=>by simp only [Sem.events,Sem.runT]
  simpa only [V,Y] using K _ h
 | mark m k K=>
  intro Q X h;obtain⟨hm,h⟩:=h;obtain⟨es,O,Z,h3⟩:=K h;have V:∀w,(Sem.mark m k).run P w=k.run P w:=fun w=>by simp [Sem.run]
  have Y:∀w,(Sem.mark m k).events P w #[]= #[⟨.mark m,false,true⟩]++k.events P w #[]:=fun w=>by rw [← Sem.events_acc];simp only [Sem.events,Sem.runT];rfl
  refine⟨#[⟨.mark m,false,true⟩]++es,fun w=>by rw [Y,O],fun e he=>?_,by simpa only [V] using h3⟩;rcases Array.mem_append.1 he with he | he
  ·simp at he;subst he;rcases hm with⟨U,_⟩ | hm
   ·cases U
   ·obtain⟨f,rfl⟩:=hm;exact⟨f,rfl⟩
  ·exact Z e he
 | halt h=>intro Q X aa;exact⟨#[],fun w=>by simp [Sem.events_halt],by simp,.inr ⟨h,aa,fun w=>rfl⟩⟩
end Pal
namespace Pal
open Go Go.Conc
def O0(P:Program)(main:Bool)(g:Goroutine)(s:St)(K:Goroutine→St→Prop):Prop:=
 g.status= .running∧(∀w,Fits s w→
  ∃g' s' w' es,stepG P main g w= .go g' w' es∧K g' s'∧Fits s' w'∧Fr s w s' w'∧(∀e∈es,Ev s w w' e))∧
  (s= .quiet→∃g',(∀w,stepG P main g w= .go g' w #[])∧K g' .quiet)
structure BH (s s₀:St):Prop where
 ext:∀b o,s.E b=some o→s₀.E b=some o
 own:∀b o,s₀.H b=some o→s.H b=some o
 CG:∀b o,s₀.E b=some o→s.E b=some o∨(s.H b=some o∧s₀.H b=none)
 q:s₀.q=s.q
theorem BH.refl(s:St):BH s s:=⟨fun _ _ h=>h,fun _ _ h=>h,fun _ _ h=> .inl h,rfl⟩
theorem BH.fits{s s₀:St}(g:BH s s₀){w:World}(f:Fits s w):Fits s₀ w where
 e b o h:=by
  rcases g.CG b o h with x | x
  ·exact f.e _ _ x
  ·exact f.h _ _ x.1
 h b o h:=f.h _ _ (g.own _ _ h)
 d b h:=by
  cases K:s₀.E b with
  | none=>exact absurd K h
  | some o=>
   rcases g.CG b o K with x | x
   ·cases O:s₀.H b with
    | none=>rfl
    | some y=>have:=g.own _ _ O;rw [f.d b (by rw [x];simp)] at this;cases this
   ·exact x.2
theorem Fb{α:Type}{x:Option α}(h:x≠none):∃a,x=some a:=by cases x <;> simp at h;exact⟨_,rfl⟩
theorem BH.fr{s s₀ s':St}{w w':World}(g:BH s s₀)(f:Fr s₀ w s' w'):Fr s w s' w' where
 size:=f.size
 keep b hb O:=f.keep b hb (by
  cases h:s₀.H b with
  | none=>rfl
  | some o=>rw [g.own _ _ h] at O;cases O)
 own b hb:=(f.own b hb).imp (fun h=>by obtain⟨o,K⟩:=Fb h;rw [g.own _ _ K];simp) id
 ext b o h:=f.ext _ _ (g.ext _ _ h)
 CG b hb:=by
  rcases f.CG b hb with h | h | h
  ·obtain⟨o,K⟩:=Fb h;rcases g.CG _ _ K with x | x
   ·exact .inl (by rw [x];simp)
   ·exact .inr (.inl (by rw [x.1];simp))
  ·obtain⟨o,K⟩:=Fb h;exact .inr (.inl (by rw [g.own _ _ K];simp))
  ·exact .inr (.inr h)
 tape:=f.tape
 os:=f.os
 output:=f.output
theorem BH.DX{s s₀:St}{w w':World}{b:Nat}{wr:Bool}(g:BH s s₀)(t:DX s₀ w w' b wr):DX s w w' b wr:=by
 refine⟨t.1,?_⟩;rcases t.2 with h | h | ⟨h,hw⟩
 ·obtain⟨o,K⟩:=Fb h;exact .inl (by rw [g.own _ _ K];simp)
 ·exact .inr (.inl h)
 ·obtain⟨o,K⟩:=Fb h;rcases g.CG _ _ K with x | x
  ·exact .inr (.inr ⟨by rw [x];simp,hw⟩)
  ·exact .inl (by rw [x.1];simp)
theorem BH.ev{s s₀:St}{w w':World}{e:Event}(g:BH s s₀)(t:Ev s₀ w w' e):Ev s w w' e:=by
 unfold Ev at t ⊢;split <;> rename_i he <;> simp only [he] at t
 ·exact⟨t.1,g.DX t.2⟩
 ·exact⟨t.1,g.DX t.2⟩
 ·trivial
 ·trivial
theorem BH.quiet{s₀:St}(g:BH .quiet s₀):s₀= .quiet:=by
 obtain⟨E,H,q⟩:=s₀;have K:E=fun _=>none:=by
  funext b;cases h:E b with
  | none=>rfl
  | some o=>rcases g.CG b o h with x | ⟨x,_⟩ <;> cases x
 have O:H=fun _=>none:=by
  funext b;cases h:H b with
  | none=>rfl
  | some o=>cases g.own b o h
 have h3:q=true:=g.q;subst K O h3;rfl
inductive Rk:Type where
 | leaf:Rk
 | node (f:World→Rk):Rk
def Rk.sub(a b:Rk):Prop:=∃f w,b= .node f∧a=f w
theorem Rk.wf:WellFounded Rk.sub:=⟨fun r=>by
 induction r with
 | leaf=>exact⟨_,fun a ⟨f,w,h,_⟩=>by cases h⟩
 | node f K=>exact⟨_,fun a ⟨g,w,h,e⟩=>by cases h;subst e;exact K w⟩⟩
def Jr(P:Program)(main:Bool)(Q:Goroutine→St→Prop):Rk→Goroutine→St→Prop
 | .leaf,g,s=>Q g s
 | .node f,g,s=>Q g s∨(g.status= .running∧∀w,Fits s w→
  ∃g' s' w' es,stepG P main g w= .go g' w' es∧Jr P main Q (f w) g' s'∧Fits s' w'∧Fr s w s' w'∧(∀e∈es,Ev s w w' e)∧(s= .quiet→s'= .quiet∧w'=w∧es= #[]))
structure Judge (P:Program) where
 main:Bool
 ok:(Goroutine→St→Prop)→Goroutine→St→Prop
 stop:∀{Q g s},Q g s→ok Q g s
 step:∀{Q g s},O0 P main g s (ok Q)→ok Q g s
 trans:∀{Q R g s},ok Q g s→(∀g' s',Q g' s'→ok R g' s')→ok R g s
 ghost:∀{Q g s s₀},BH s s₀→ok Q g s₀→ok Q g s
def JQ(Q:Goroutine→St→Prop)(g:Goroutine)(s:St):Prop:=∃s₀,BH s s₀∧Q g s₀
theorem BH.trans{a b c:St}(h:BH a b)(k:BH b c):BH a c where
 ext x o y:=k.ext _ _ (h.ext _ _ y)
 own x o y:=h.own _ _ (k.own _ _ y)
 CG x o y:=by
  rcases k.CG x o y with z | z
  ·rcases h.CG x o z with u | u
   ·exact .inl u
   ·refine .inr ⟨u.1,?_⟩;cases K:c.H x with
    | none=>rfl
    | some v=>have:=k.own _ _ K;rw [u.2] at this;cases this
  ·exact .inr ⟨h.own _ _ z.1,z.2⟩
 q:=k.q.trans h.q
def AO(P:Program)(main:Bool):Judge P where
 main:=main
 ok Q g s:=∃r,Jr P main (JQ Q) r g s
 stop h:=⟨.leaf,_,.refl _,h⟩
 step {Q g s} h:=by
  obtain⟨U,h,hu⟩:=h;have Z:∀w,∃r:Rk,Fits s w→∃g' s' w' es,stepG P main g w= .go g' w' es∧Jr P main (JQ Q) r g' s'∧Fits s' w'∧Fr s w s' w'∧(∀e∈es,Ev s w w' e)∧(s= .quiet→s'= .quiet∧w'=w∧es= #[]):=by
   intro w;by_cases f:Fits s w
   ·by_cases e:s= .quiet
    ·obtain⟨g',K,r,O⟩:=hu e;exact⟨r,fun _=>⟨g',.quiet,w,#[],K w,O,e▸f,e▸ .refl _ _,by simp,fun _=>⟨rfl,rfl,rfl⟩⟩⟩
    ·obtain⟨g',s',w',es,K,⟨r,O⟩,h3,aa,ab⟩:=h w f;exact⟨r,fun _=>⟨g',s',w',es,K,O,h3,aa,ab,fun x=>absurd x e⟩⟩
   ·exact⟨.leaf,fun x=>absurd x f⟩
  exact⟨.node fun w=>Classical.choose (Z w),.inr ⟨U,fun w f=>Classical.choose_spec (Z w) f⟩⟩
 trans {Q R g s} h k:=by
  obtain⟨r,h⟩:=h;have ac:∀(r:Rk) {g:Goroutine} {s s₀:St},BH s s₀→Jr P main (JQ R) r g s₀→Jr P main (JQ R) r g s:=by
   intro r g s s₀ hg V;cases r with
   | leaf=>obtain⟨Y,K,O⟩:=V;exact⟨Y,hg.trans K,O⟩
   | node f=>
    rcases V with⟨Y,K,O⟩ | ⟨U,V⟩
    ·exact .inl ⟨Y,hg.trans K,O⟩
    ·exact .inr ⟨U,fun w f=>let ⟨g',s',w',es,K,O,h3,aa,ab,h6⟩:=V w (hg.fits f);⟨g',s',w',es,K,O,h3,hg.fr aa,fun e he=>hg.ev (ab e he),fun e=>h6 (by subst e;exact hg.quiet)⟩⟩
  induction r generalizing g s with
  | leaf=>
   obtain⟨s₀,K,O⟩:=h;obtain⟨r,U⟩:=k _ _ O;exact⟨r,ac r K U⟩
  | node f ag=>
   rcases h with⟨s₀,K,O⟩ | ⟨U,h⟩
   ·obtain⟨r,U⟩:=k _ _ O;exact⟨r,ac r K U⟩
   ·have Z:∀w,∃r:Rk,Fits s w→∃g' s' w' es,stepG P main g w= .go g' w' es∧Jr P main (JQ R) r g' s'∧Fits s' w'∧Fr s w s' w'∧(∀e∈es,Ev s w w' e)∧(s= .quiet→s'= .quiet∧w'=w∧es= #[]):=by
     intro w;by_cases ae:Fits s w
     ·obtain⟨g',s',w',es,K,O,h3⟩:=h w ae;obtain⟨r,U⟩:=ag w O;exact⟨r,fun _=>⟨g',s',w',es,K,U,h3⟩⟩
     ·exact⟨.leaf,fun x=>absurd x ae⟩
    exact⟨.node fun w=>Classical.choose (Z w),.inr ⟨U,fun w f=>Classical.choose_spec (Z w) f⟩⟩
 ghost {Q g s s₀} hg h:=by
  obtain⟨r,V⟩:=h;refine⟨r,?_⟩;cases r with
  | leaf=>obtain⟨Y,K,O⟩:=V;exact⟨Y,hg.trans K,O⟩
  | node f=>
   rcases V with⟨Y,K,O⟩ | ⟨U,V⟩
   ·exact .inl ⟨Y,hg.trans K,O⟩
   ·exact .inr ⟨U,fun w f=>let ⟨g',s',w',es,K,O,h3,aa,ab,h6⟩:=V w (hg.fits f);⟨g',s',w',es,K,O,h3,hg.fr aa,fun e he=>hg.ev (ab e he),fun e=>h6 (by subst e;exact hg.quiet)⟩⟩
def Lv(P:Program)(Q:Goroutine→St→Prop):Nat→Goroutine→Prop
 | 0,g=>Q g .quiet
 | n+1,g=>Q g .quiet∨(g.status= .running∧∃g',(∀w,stepG P false g w= .go g' w #[])∧Lv P Q n g')
def El(P:Program):Judge P where
 main:=false
 ok Q g s:=s= .quiet→∃n,Lv P Q n g
 stop h e:=⟨0,by subst e;exact h⟩
 step {Q g s} h e:=by
  obtain⟨g',K,O⟩:=h.2.2 e;obtain⟨n,U⟩:=O rfl;exact⟨n+1,.inr ⟨h.1,g',K,U⟩⟩
 trans {Q R g s} h k e:=by
  obtain⟨n,U⟩:=h e;have:∀n g,Lv P Q n g→∃m,Lv P R m g:=by
   intro n
   induction n with
   | zero=>intro g h;exact k _ _ h rfl
   | succ n V=>
    intro g h;rcases h with h | ⟨Y,g',K,O⟩
    ·exact k _ _ h rfl
    ·obtain⟨m,hm⟩:=V g' O;exact⟨m+1,.inr ⟨Y,g',K,hm⟩⟩
  exact this n g U
 ghost {Q g s s₀} hg h e:=by subst e;exact h hg.quiet
end Pal
namespace Pal
open Go Go.Conc
def fr(b:Frame)(T:Array Value)(ds:List Deferred)(todo:List Item):Frame:={b with tmps:=T,todo:=todo,defers:=ds,mode:= .run}
def CC(b:Frame)(T:Array Value)(ds:List Deferred)(todo:List Item):Frame:={b with tmps:=T,todo:=todo,defers:=ds,mode:= .returning}
def AY(T:Array Value):Operand→Value
 | .tmp t=>T.getD t undef
 | .const v=>v
 | .global g=> .pointer (some ⟨g,0,none⟩)
 | .func f=> .func (.func f) #[] #[]
abbrev Env:=List (Nat×Value)
def look:Env→Nat→Option Value
 | [],_=>none
 | (t,v)::L,u=>if t=u then some v else look L u
def ev(L:Env):Operand→Option Value
 | .tmp t=>look L t
 | .const v=>some v
 | .global g=>some (.pointer (some ⟨g,0,none⟩))
 | .func f=>some (.func (.func f) #[] #[])
structure Has (n:Nat) (L:Env) (T:Array Value):Prop where
 size:T.size=n
 at_:∀t v,look L t=some v→T.getD t undef=v
theorem Has.ev{n:Nat}{L:Env}{T:Array Value}(h:Has n L T){x:Operand}{v:Value}(e:ev L x=some v):AY T x=v:=by
 cases x with
 | tmp t=>exact h.at_ t v e
 | const u=>cases e;rfl
 | global g=>cases e;rfl
 | func f=>cases e;rfl
def Bv(T:Array Value):Option Tmp→Value→Array Value
 | some d,v=>T.setIfInBounds d v
 | none,_=>T
def Aj(L:Env):Option Tmp→Value→Env
 | some d,v=>(d,v)::L
 | none,_=>L
def AQ(n:Nat):Option Tmp→Bool
 | some d=>d<n
 | none=>true
theorem R4(T:Array Value)(d:Nat)(v:Value)(h:d<T.size)(t:Nat):(T.setIfInBounds d v).getD t undef=if d=t then v else T.getD t undef:=by
 by_cases e:d=t
 ·subst e;simp [Array.getD_eq_getD_getElem?,h]
 ·simp [Array.getD_eq_getD_getElem?,e]
theorem Has.put{n:Nat}{L:Env}{T:Array Value}(h:Has n L T){d:Option Tmp}(K:AQ n d=true)(v:Value):Has n (Aj L d v) (Bv T d v):=by
 cases d with
 | none=>exact h
 | some d=>
  have O:d<T.size:=by rw [h.size];simpa [AQ] using K
  refine⟨by simp [Bv,h.size],fun t u hu=>?_⟩;simp only [Bv,R4 T d v O];simp only [Aj,look] at hu;split at hu
  ·rename_i e;rw [if_pos e];exact Option.some.inj hu
  ·rename_i e;rw [if_neg e];exact h.at_ t u hu
def Sub:Env→Env→Prop
 | [],_=>True
 | (t,v)::L',L=>look L t=some v∧Sub L' L
theorem Sub.look{L:Env}:∀{L':Env},Sub L' L→∀t v,look L' t=some v→Pal.look L t=some v
 | [],_,t,v,e=>by simp [Pal.look] at e
 | (u,w)::L',h,t,v,e=>by
  simp only [Pal.look] at e
  split at e
  ·rename_i K;subst K;cases e;exact h.1
  ·exact Sub.look h.2 t v e
theorem Has.sub{n:Nat}{L L':Env}{T:Array Value}(h:Has n L T)(s:Sub L' L):Has n L' T:=⟨h.size,fun t v e=>h.at_ t v (s.look t v e)⟩
section
variable {P:Program}(J:Judge P)(Q:Goroutine→St→Prop)
def JL(b:Frame)(n:Nat)(L:Env)(ds:List Deferred)(todo:List Item)(cs:List Frame)(s:St):Prop:=
 ∀T,Has n L T→J.ok Q (G (fr b T ds todo) cs) s
end
section
variable {P:Program}{J:Judge P}{Q:Goroutine→St→Prop}{b:Frame}{n:Nat}{L L':Env}{ds:List Deferred}{k:List Item}{cs:List Frame}{s s':St}
theorem Judge.BO{g g':Goroutine}(K:g.status= .running)(h:∀w,stepG P J.main g w= .go g' w)(k:J.ok Q g' s):J.ok Q g s:=
 J.step ⟨K,fun w f=>⟨g',s,w,#[],h w,k,f,.refl _ _,by simp⟩,fun e=>⟨g',h,e▸k⟩⟩
theorem FG(h:Sub L' L)(k':JL J Q b n L' ds k cs s):JL J Q b n L ds k cs s:=fun T K=>k' T (K.sub h)
theorem JL.ghost(h:BH s s')(k':JL J Q b n L ds k cs s'):JL J Q b n L ds k cs s:=fun T K=>J.ghost h (k' T K)
theorem JL.skip(h:JL J Q b n L ds k cs s):JL J Q b n L ds (.code .skip::k) cs s:=fun T K=>Judge.BO rfl (fun w=>by simp [G,stepG,stepG.exec,fr]) (h T K)
theorem JL.label{l:Nat}(h:JL J Q b n L ds k cs s):JL J Q b n L ds (.code (.label l)::k) cs s:=fun T K=>Judge.BO rfl (fun w=>by simp [G,stepG,stepG.exec,fr]) (h T K)
theorem ML{i:Nat}(h:JL J Q b n L ds k cs s):JL J Q b n L ds (.inBlock i::k) cs s:=fun T K=>Judge.BO rfl (fun w=>by simp [G,stepG,stepG.exec,fr]) (h T K)
theorem Qr{c:Code}(h:JL J Q b n L ds k cs s):JL J Q b n L ds (.inScope c::k) cs s:=fun T K=>Judge.BO rfl (fun w=>by simp [G,stepG,stepG.exec,fr]) (h T K)
theorem JL.seq{x y:Code}(h:JL J Q b n L ds (.code x:: .code y::k) cs s):JL J Q b n L ds (.code (.seq x y)::k) cs s:=fun T K=>Judge.BO rfl (fun w=>by simp [G,stepG,stepG.exec,fr]) (h T K)
theorem JL.block{i:Nat}{c:Code}(h:JL J Q b n L ds (.code c:: .inBlock i::k) cs s):JL J Q b n L ds (.code (.block i c)::k) cs s:=fun T K=>Judge.BO rfl (fun w=>by simp [G,stepG,stepG.exec,fr]) (h T K)
theorem JL.scope{c:Code}(h:JL J Q b n L ds (.code c:: .inScope c::k) cs s):JL J Q b n L ds (.code (.scope c)::k) cs s:=fun T K=>Judge.BO rfl (fun w=>by simp [G,stepG,stepG.exec,fr]) (h T K)
theorem Gt{c:Code}(h:JL J Q b n L ds (.code c:: .inLoop c::k) cs s):JL J Q b n L ds (.code (.loop c)::k) cs s:=fun T K=>Judge.BO rfl (fun w=>by simp [G,stepG,stepG.exec,fr]) (h T K)
theorem JL.again{c:Code}(h:JL J Q b n L ds (.code c:: .inLoop c::k) cs s):JL J Q b n L ds (.inLoop c::k) cs s:=fun T K=>Judge.BO rfl (fun w=>by simp [G,stepG,stepG.exec,fr]) (h T K)
theorem JL.exit{i:Nat}{k':List Item}(K:exitTo i k=some k')(h:JL J Q b n L ds k' cs s):JL J Q b n L ds (.code (.exit i)::k) cs s:=fun T O=>Judge.BO rfl (fun w=>by simp [G,stepG,stepG.exec,fr,K]) (h T O)
theorem JL.goto{l:Nat}{k':List Item}(K:gotoIn l k=some k')(h:JL J Q b n L ds k' cs s):JL J Q b n L ds (.code (.goto l)::k) cs s:=fun T O=>Judge.BO rfl (fun w=>by simp [G,stepG,stepG.exec,fr,K]) (h T O)
theorem Oe(T:Array Value)(todo:List Item)(x:Operand):(fr b T ds todo).eval x=AY T x:=by cases x <;> rfl
theorem NG(T:Array Value)(todo:List Item):(fr b T ds todo).eval=AY T:=funext (Oe T todo)
theorem JL.cond{c:Operand}{x y:Code}{t:Bool}(U:ev L c=some (.bool t))(h:JL J Q b n L ds (.code (if t then x else y)::k) cs s):JL J Q b n L ds (.code (.cond c x y)::k) cs s:=fun T O=>
 Judge.BO rfl (fun w=>by
  have K:=Oe (b:=b) (ds:=ds) T (.code (.cond c x y)::k) c
  rw [O.ev U] at K
  simp only [fr] at K
  simp [G,stepG,stepG.exec,fr,K]) (h T O)
theorem Rm{c:Operand}{x y:Code}(K:ev L c=some (.bool true))(h:JL J Q b n L ds (.code x::k) cs s):JL J Q b n L ds (.code (.cond c x y)::k) cs s:=JL.cond K h
theorem RP{c:Operand}{x y:Code}(K:ev L c=some (.bool false))(h:JL J Q b n L ds (.code y::k) cs s):JL J Q b n L ds (.code (.cond c x y)::k) cs s:=JL.cond K h
theorem N7{c:Operand}{x y:Code}{t:Bool}(K:ev L c=some (.bool t))(O:t=true→JL J Q b n L ds (.code x::k) cs s)(U:t=false→JL J Q b n L ds (.code y::k) cs s):JL J Q b n L ds (.code (.cond c x y)::k) cs s:=by
 cases t
 ·exact JL.cond K (U rfl)
 ·exact JL.cond K (O rfl)
theorem LV{c:Operand}{x y:Code}{p:Prop} [Decidable p] (K:ev L c=some (.bool (decide p)))(O:p→JL J Q b n L ds (.code x::k) cs s)(U:¬p→JL J Q b n L ds (.code y::k) cs s):JL J Q b n L ds (.code (.cond c x y)::k) cs s:=
 N7 K (fun h=>O (of_decide_eq_true h)) (fun h=>U (of_decide_eq_false h))
theorem JL.region{id:Nat}{ops:Array Oper}(h:JL J Q b n L ds (.inRegion ops (List.range ops.size)::k) cs s):JL J Q b n L ds (.code (.region id ops false)::k) cs s:=fun T K=>Judge.BO rfl (fun w=>by simp [G,stepG,stepG.exec,fr]) (h T K)
theorem JL.done{ops:Array Oper}(h:JL J Q b n L ds k cs s):JL J Q b n L ds (.inRegion ops []::k) cs s:=fun T K=>Judge.BO rfl (fun w=>by simp [G,stepG,stepG.exec,fr]) (h T K)
theorem Om{id:Nat}{ops:Array Oper}(K:s.q=false)(hm:P.follows .mixedOrders=true)(h:∀t,JL J Q b n L ds (.inRegion ops (Region.linearise .any ops t)::k) cs s):JL J Q b n L ds (.code (.region id ops true)::k) cs s:=fun T O=>by
 refine J.step ⟨rfl,fun w f=>⟨_,s,{w with drawn:=w.drawn+1},#[],?_,h (w.tape w.drawn (.order b.fn id)) T O,⟨f.e,f.h,f.d⟩,⟨Nat.le_refl _,fun _ _ _=>rfl,fun _ h=> .inl h,fun _ _ h=>h,fun _ h=> .inl h,rfl,rfl,rfl⟩,by simp⟩,fun e=>by subst e;cases K⟩
 simp [G,stepG,stepG.exec,fr,choose,Sem.run,Question.forced,Question.cut,Region.schedule,hm]
theorem D7(T:Array Value)(ops:Array Oper)(i:Nat)(rest:List Nat)(v:Value)(o:Oper)(K:ops[i]? =some o):
  (fr b T ds (.inRegion ops (i::rest)::k)).finish v=fr b (Bv T o.dst v) ds (.inRegion ops rest::k):=by
 cases O:o.dst <;> simp [Frame.finish,fr,K,O,Bv]
theorem stepG_op{main:Bool}{T:Array Value}{ops:Array Oper}{i:Nat}{rest:List Nat}{o:Oper}{w:World}(K:ops[i]? =some o)(hw:Region.wanted o (yielded ops T)=true):
  stepG P main (G (fr b T ds (.inRegion ops (i::rest)::k)) cs) w=
   match b.roundOf,o.op with
   | some l,.defer c=>stepG.apply P true (fr b T ds (.inRegion ops (i::rest)::k)) cs none (do Instr.deferInRound l (← resolve (AY T) c o.type);pure .skip) w
   | _,_=>stepG.apply P true (fr b T ds (.inRegion ops (i::rest)::k)) cs none (execOp (AY T) o) w:=by
 have he:=NG (b:=b) (ds:=ds) T (.inRegion ops (i::rest)::k);simp only [fr] at he;simp only [G,stepG,stepG.exec,fr,K,Option.map_some,Option.getD_some,hw,if_true,stepG.oper,Frame.oper?,he]
 rfl
theorem De(T:Array Value)(todo:List Item):(fr b T ds todo).fn=b.fn:=rfl
theorem EH(T:Array Value)(todo:List Item):(fr b T ds todo).todo=todo:=rfl
def upon(J:Judge P)(Q:Goroutine→St→Prop)(b:Frame)(T:Array Value)(ds:List Deferred)(ops:Array Oper)(i:Nat)(rest:List Nat)(k:List Item)(cs:List Frame)(dst:Option Tmp):Next→St→Prop
 | .value v,s=>J.ok Q (G (fr b (Bv T dst v) ds (.inRegion ops rest::k)) cs) s
 | .skip,s=>J.ok Q (G (fr b (Bv T dst undef) ds (.inRegion ops rest::k)) cs) s
 | .defer d,s=>J.ok Q (G (fr b (Bv T dst undef) (d::ds) (.inRegion ops rest::k)) cs) s
 | .enter f args,s=>J.ok Q (G (Frame.enter P f args .normal) (fr b T ds (.inRegion ops (i::rest)::k)::cs)) s
 | .round l f tmps assign body,s=>J.ok Q (G (Frame.round l f tmps assign body .normal) (fr b T ds (.inRegion ops (i::rest)::k)::cs)) s
 | _,_=>False
def Kl(J:Judge P)(Q:Goroutine→St→Prop)(b:Frame)(T:Array Value)(ds:List Deferred)(ops:Array Oper)(i:Nat)(rest:List Nat)(k:List Item)(cs:List Frame):Halt→St→Prop
 | .panic v,s=>J.ok Q (G ((fr b T ds (.inRegion ops (i::rest)::k)).raise [{v,recovered:=false}]) cs) s
 | _,_=>False
theorem LA{s:St}{w w':World}{fn:FuncId}{es:Array Event}(h:∀e∈es,Ev s w w' e):∀e∈seen P fn es,Ev s w w' e:=fun e he=>h e (mem_seen he)
theorem Judge.oper{T:Array Value}{ops:Array Oper}{i:Nat}{rest:List Nat}{o:Oper}(ab:ops[i]? =some o)(hw:Region.wanted o (yielded ops T)=true)(aj:b.kind≠ .early)
  (ac:b.roundOf=none∨∀c,o.op≠ .defer c)
  (h:lp P (execOp (AY T) o) s (upon J Q b T ds ops i rest k cs o.dst) (Kl J Q b T ds ops i rest k cs)):
  J.ok Q (G (fr b T ds (.inRegion ops (i::rest)::k)) cs) s:=by
 have U:((fr b T ds (.inRegion ops (i::rest)::k)).kind==CallKind.early)=false:=by simpa [fr] using aj
 have ah:∀w,stepG P J.main (G (fr b T ds (.inRegion ops (i::rest)::k)) cs) w=stepG.apply P true (fr b T ds (.inRegion ops (i::rest)::k)) cs none (execOp (AY T) o) w:=by
  intro w;rw [stepG_op ab hw];split
  ·rename_i l c ai ak;rcases ac with ac | ac
   ·rw [ac] at ai;cases ai
   ·exact absurd ak (ac c)
  ·rfl
 refine J.step ⟨rfl,fun w f=>?_,fun e=>?_⟩
 rotate_left
 ·subst e;simp only [ah];have ae:=fun v=>D7 (b:=b) (ds:=ds) (k:=k) T ops i rest v o ab;obtain⟨es,he,V,h⟩:=Lu _ h;have aa:seen P b.fn es= #[]:=KZ V;rcases h with⟨nx,K,O⟩ | ⟨x,K,O⟩
  ·cases nx with
   | value v=>exact⟨_,fun w=>by simp [stepG.apply,O,U,GStep.after,G,ae,De,he,aa],K⟩
   | skip=>exact⟨_,fun w=>by simp [stepG.apply,O,U,GStep.after,G,ae,De,he,aa],K⟩
   | enter g args=>exact⟨_,fun w=>by simp [stepG.apply,O,U,GStep.after,G,De,EH,he,aa],K⟩
   | round l g al as am=>exact⟨_,fun w=>by simp [stepG.apply,O,U,GStep.after,G,De,EH,he,aa],K⟩
   | defer d=>
    have ag:=D7 (b:=b) (ds:=d::ds) (k:=k) T ops i rest undef o ab;exact⟨_,fun w=>by rw [← ag];simp [stepG.apply,O,U,GStep.after,G,De,EH,he,aa];rfl,K⟩
   | _=>exact K.elim
  ·cases x with
   | panic v=>exact⟨_,fun w=>by simp [stepG.apply,O,U,GStep.after,G,De,EH,he,aa],K⟩
   | _=>exact K.elim
 obtain⟨s',Y,Z,h3,K⟩:=I9 _ h f;rw [ah];have V:=LA (P:=P) (fn:=b.fn) h3;have ae:=fun v=>D7 (b:=b) (ds:=ds) (k:=k) T ops i rest v o ab;cases O:(execOp (AY T) o).run P w with
 | ok nx w'=>
  rw [O] at Y Z K V;simp only [GM] at Y Z V;cases nx with
  | value v=>exact⟨_,s',w',seen P b.fn ((execOp (AY T) o).events P w #[])++ #[],by simp [stepG.apply,O,U,GStep.after,G,ae,De],K,Y,Z,by simpa using V⟩
  | skip=>exact⟨_,s',w',seen P b.fn ((execOp (AY T) o).events P w #[])++ #[],by simp [stepG.apply,O,U,GStep.after,G,ae,De],K,Y,Z,by simpa using V⟩
  | enter g args=>exact⟨_,s',w',seen P b.fn ((execOp (AY T) o).events P w #[])++ #[],by simp [stepG.apply,O,U,GStep.after,G,De,EH],K,Y,Z,by simpa using V⟩
  | round l g al as am=>exact⟨_,s',w',seen P b.fn ((execOp (AY T) o).events P w #[])++ #[],by simp [stepG.apply,O,U,GStep.after,G,De,EH],K,Y,Z,by simpa using V⟩
  | defer d=>
   have ag:=D7 (b:=b) (ds:=d::ds) (k:=k) T ops i rest undef o ab;exact⟨_,s',w',seen P b.fn ((execOp (AY T) o).events P w #[])++ #[],by
    rw [← ag];simp [stepG.apply,O,U,GStep.after,G,De,EH];rfl,K,Y,Z,by simpa using V⟩
  | _=>exact K.elim
 | halt x w'=>
  rw [O] at Y Z K V;simp only [GM] at Y Z V;cases x with
  | panic v=>exact⟨_,s',w',seen P b.fn ((execOp (AY T) o).events P w #[])++ #[],by simp [stepG.apply,O,U,GStep.after,G,De,EH],K,Y,Z,by simpa using V⟩
  | _=>exact K.elim
theorem Judge.unwanted{T:Array Value}{ops:Array Oper}{i:Nat}{rest:List Nat}{o:Oper}(K:ops[i]? =some o)(hw:Region.wanted o (yielded ops T)=false)
  (h:J.ok Q (G (fr b (Bv T o.dst undef) ds (.inRegion ops rest::k)) cs) s):J.ok Q (G (fr b T ds (.inRegion ops (i::rest)::k)) cs) s:=by
 refine Judge.BO rfl (fun w=>?_) h;have O:=D7 (b:=b) (ds:=ds) (k:=k) T ops i rest undef o K;rw [← O];simp [G,stepG,stepG.exec,fr,K,hw]
end
end Pal
namespace Pal
open Go Go.Conc
def Yl(P:Program)(o:Oper)(ρ:Operand→Value)(s:St)(v:Value):Prop:=lp P (execOp ρ o) s (fun nx s'=>nx= .value v∧s'=s) (fun _ _=>False)
def CN(L:Env)(ρ:Operand→Value):Prop:=∀x v,ev L x=some v→ρ x=v
def Az(L:Env)(ops:Array Oper)(o:Oper):Option Bool:=
 match o.guard with
 | none=>some true
 | some (j,K)=>match(ops[j]?).bind (·.dst) with
  | some d=>match look L d with
   | some (.bool b)=>some (b==K)
   | some (.tuple _)=>some false
   | _=>none
  | none=>none
section
variable {P:Program}{J:Judge P}{Q:Goroutine→St→Prop}{b:Frame}{n:Nat}{L L':Env}{ds:List Deferred}{k:List Item}{cs:List Frame}{s s':St}
theorem Has.Ee{T:Array Value}(h:Has n L T):CN L (AY T):=fun _ _ e=>h.ev e
theorem getD_some{T:Array Value}{d:Nat}{c:Bool}(h:T.getD d undef= .bool c):T[d]? =some (.bool c):=by
 rw [Array.getD_eq_getD_getElem?] at h;cases K:T[d]? with
 | none=>rw [K] at h;simp [undef] at h
 | some v=>rw [K] at h;simp at h;rw [h]
theorem BF{T:Array Value}{ops:Array Oper}{o:Oper}{c:Bool}(h:Has n L T)(hw:Az L ops o=some c):Region.wanted o (yielded ops T)=c:=by
 unfold Az at hw;unfold Region.wanted;cases hg:o.guard with
 | none=>rw [hg] at hw;simpa using hw
 | some p=>
  obtain⟨j,V⟩:=p;rw [hg] at hw;simp only at hw ⊢;cases K:(ops[j]?).bind (·.dst) with
  | none=>rw [K] at hw;simp at hw
  | some d=>
   rw [K] at hw;simp only at hw;cases O:look L d with
   | none=>rw [O] at hw;simp at hw
   | some v=>
    rw [O] at hw;cases v with
    | bool x=>
     simp only [Option.some.injEq] at hw;have:=getD_some (h.at_ d _ O);simp only [yielded,K,Option.bind_some,this];simp [← hw]
    | tuple c=>
     simp only [Option.some.injEq] at hw;have hg:=h.at_ d _ O;simp only [yielded,K,Option.bind_some];cases U:T[d]? with
     | none=>simp [← hw]
     | some u=>
      have:u= .tuple c:=by rw [Array.getD_eq_getD_getElem?,U] at hg;exact hg
      subst this;simp [← hw]
    | _=>simp at hw
def B5:Op→Bool | .defer _=>true | _=>false
def Bw(b:Frame)(n:Nat)(o:Oper):Bool:=(b.kind != .early)&&(AQ n o.dst&& !B5 o.op)
theorem Yl.out{P:Program}{o:Oper}{ρ:Operand→Value}{s:St}{v:Value}(h:Yl P o ρ s v):Pal.lp P (execOp ρ o) s (fun nx s'=>nx= .value v∧s'=s) (fun _ _=>False):=by unfold Yl at h;exact h
theorem Ay{ops:Array Oper}{i:Nat}{rest:List Nat}{o:Oper}{v:Value}(V:ops[i]? =some o)(hw:Az L ops o=some true)(K:Bw b n o=true)
  (h:∀ρ,CN L ρ→Yl P o ρ s v) (Y:JL J Q b n (Aj L o.dst v) ds (.inRegion ops rest::k) cs s):
  JL J Q b n L ds (.inRegion ops (i::rest)::k) cs s:=fun T O=>by
 simp only [Bw,Bool.and_eq_true] at K
 obtain⟨K,Z,U⟩:=K
 refine Judge.oper V (BF O hw) (by simpa using K) (.inr fun c aa=>by rw [aa] at U;simp [B5] at U) (BS _ (h _ O.Ee).out ?_ ?_)
 ·rintro nx s' ⟨rfl,rfl⟩
  exact Y _ (O.put Z v)
 ·intro _ _ ab;exact ab.elim
theorem PV{ops:Array Oper}{i:Nat}{rest:List Nat}{o:Oper}(O:ops[i]? =some o)(hw:Az L ops o=some false)(U:AQ n o.dst=true)
  (V:JL J Q b n (Aj L o.dst undef) ds (.inRegion ops rest::k) cs s):
  JL J Q b n L ds (.inRegion ops (i::rest)::k) cs s:=fun _ K=>
 Judge.unwanted O (BF K hw) (V _ (K.put U undef))
theorem JL.op{ops:Array Oper}{i:Nat}{rest:List Nat}{o:Oper}(Z:ops[i]? =some o)(hw:Az L ops o=some true)(K:Bw b n o=true)
  (h:∀ρ,CN L ρ→lp P (execOp ρ o) s (fun nx s'=>match nx with
   | .value v=>JL J Q b n (Aj L o.dst v) ds (.inRegion ops rest::k) cs s'
   | .skip=>JL J Q b n (Aj L o.dst undef) ds (.inRegion ops rest::k) cs s'
   | _=>False) (fun _ _=>False)):
  JL J Q b n L ds (.inRegion ops (i::rest)::k) cs s:=fun T O=>by
 simp only [Bw,Bool.and_eq_true] at K
 obtain⟨K,V,Y⟩:=K
 refine Judge.oper Z (BF O hw) (by simpa using K) (.inr fun c aa=>by rw [aa] at Y;simp [B5] at Y) (BS _ (h _ O.Ee) ?_ ?_)
 ·intro nx s' U
  cases nx with
  | value v=>exact U _ (O.put V v)
  | skip=>exact U _ (O.put V undef)
  | _=>exact U.elim
 ·intro _ _ ab;exact ab.elim
end
section
variable {P:Program}{ρ:Operand→Value}{s:St}{x y z:Operand}{d:Option Tmp}{t u ty:TypeId}{p:String}{af:Array Edge}{g:Option (Nat×Bool)}{v:Value}{kd kd':IntKind}{m m':Int}
theorem Yl.move(K:ρ x=v):Yl P ⟨d,.move x,ty,p,af,g⟩ ρ s v:=by simp [Yl,execOp,lp,pure,K]
theorem Yl.assign(K:ρ x=v):Yl P ⟨d,.assign x,ty,p,af,g⟩ ρ s v:=by simp [Yl,execOp,lp,pure,K]
theorem RB(K:ρ z= .bool true)(O:ρ x=v):Yl P ⟨d,.pick z x y,ty,p,af,g⟩ ρ s v:=by simp [Yl,execOp,lp,pure,bind,Sem.bind,asBool,K,O]
theorem Rl(K:ρ z= .bool false)(O:ρ y=v):Yl P ⟨d,.pick z x y,ty,p,af,g⟩ ρ s v:=by simp [Yl,execOp,lp,pure,bind,Sem.bind,asBool,K,O]
theorem Yl.lss(K:ρ x= .int kd m)(O:ρ y= .int kd m'):Yl P ⟨d,.binOp .lss t x y u,ty,p,af,g⟩ ρ s (.bool (decide (m<m'))):=by
 simp [Yl,execOp,lp,pure,bind,Sem.bind,K,O,eqGuard,Go.binOp,Op.intCmp]
theorem Yl.leq(K:ρ x= .int kd m)(O:ρ y= .int kd m'):Yl P ⟨d,.binOp .leq t x y u,ty,p,af,g⟩ ρ s (.bool (decide (m≤m'))):=by
 simp [Yl,execOp,lp,pure,bind,Sem.bind,K,O,eqGuard,Go.binOp,Op.intCmp]
theorem Yl.gtr(K:ρ x= .int kd m)(O:ρ y= .int kd m'):Yl P ⟨d,.binOp .gtr t x y u,ty,p,af,g⟩ ρ s (.bool (decide (m'<m))):=by
 simp [Yl,execOp,lp,pure,bind,Sem.bind,K,O,eqGuard,Go.binOp,Op.intCmp]
theorem Yl.geq(K:ρ x= .int kd m)(O:ρ y= .int kd m'):Yl P ⟨d,.binOp .geq t x y u,ty,p,af,g⟩ ρ s (.bool (decide (m'≤m))):=by
 simp [Yl,execOp,lp,pure,bind,Sem.bind,K,O,eqGuard,Go.binOp,Op.intCmp]
theorem Yl.eql(K:ρ x= .int kd m)(O:ρ y= .int kd m'):Yl P ⟨d,.binOp .eql t x y u,ty,p,af,g⟩ ρ s (.bool (decide (m=m'))):=by
 simp [Yl,execOp,lp,pure,bind,Sem.bind,K,O,eqGuard,Go.binOp,Op.intCmp];rfl
theorem Yl.neq(K:ρ x= .int kd m)(O:ρ y= .int kd m'):Yl P ⟨d,.binOp .neq t x y u,ty,p,af,g⟩ ρ s (.bool (!decide (m=m'))):=by
 simp [Yl,execOp,lp,pure,bind,Sem.bind,K,O,eqGuard,Go.binOp,Op.intCmp];rfl
theorem Yl.add(K:ρ x= .int kd m)(O:ρ y= .int kd m'):Yl P ⟨d,.binOp .add t x y u,ty,p,af,g⟩ ρ s (.int kd (kd.wrap (m+m'))):=by
 simp [Yl,execOp,lp,pure,bind,Sem.bind,K,O,eqGuard,Go.binOp,Op.intArith]
theorem Yl.sub(K:ρ x= .int kd m)(O:ρ y= .int kd m'):Yl P ⟨d,.binOp .sub t x y u,ty,p,af,g⟩ ρ s (.int kd (kd.wrap (m - m'))):=by
 simp [Yl,execOp,lp,pure,bind,Sem.bind,K,O,eqGuard,Go.binOp,Op.intArith]
theorem Yl.mul(K:ρ x= .int kd m)(O:ρ y= .int kd m'):Yl P ⟨d,.binOp .mul t x y u,ty,p,af,g⟩ ρ s (.int kd (kd.wrap (m*m'))):=by
 simp [Yl,execOp,lp,pure,bind,Sem.bind,K,O,eqGuard,Go.binOp,Op.intArith]
theorem Gs{a:Int}(h: -9223372036854775808≤a∧a≤9223372036854775807):IntKind.i64.wrap a=a:=by
 simp only [IntKind.wrap,IntKind.bits,IntKind.signed];simp;split <;> omega
theorem T2(K:ρ x= .int .i64 m)(O:ρ y= .int .i64 m')(hb: -9223372036854775808≤m+m'∧m+m'≤9223372036854775807):Yl P ⟨d,.binOp .add t x y u,ty,p,af,g⟩ ρ s (.int .i64 (m+m')):=by
 have:=Yl.add (P:=P) (s:=s) (d:=d) (t:=t) (u:=u) (ty:=ty) (p:=p) (af:=af) (g:=g) K O;rwa [Gs hb] at this
theorem TE(K:ρ x= .int .i64 m)(O:ρ y= .int .i64 m')(hb: -9223372036854775808≤m - m'∧m - m'≤9223372036854775807):Yl P ⟨d,.binOp .sub t x y u,ty,p,af,g⟩ ρ s (.int .i64 (m - m')):=by
 have:=Yl.sub (P:=P) (s:=s) (d:=d) (t:=t) (u:=u) (ty:=ty) (p:=p) (af:=af) (g:=g) K O;rwa [Gs hb] at this
theorem T5(K:ρ x= .int .i64 m)(O:ρ y= .int .i64 m')(hb: -9223372036854775808≤m*m'∧m*m'≤9223372036854775807):Yl P ⟨d,.binOp .mul t x y u,ty,p,af,g⟩ ρ s (.int .i64 (m*m')):=by
 have:=Yl.mul (P:=P) (s:=s) (d:=d) (t:=t) (u:=u) (ty:=ty) (p:=p) (af:=af) (g:=g) K O;rwa [Gs hb] at this
theorem Yl.rem(K:ρ x= .int kd m)(O:ρ y= .int kd m')(U:m'≠0):Yl P ⟨d,.binOp .rem t x y u,ty,p,af,g⟩ ρ s (.int kd (m.tmod m')):=by
 simp [Yl,execOp,lp,pure,bind,Sem.bind,K,O,eqGuard,Go.binOp,Op.intDiv,U]
theorem Yl.quo(K:ρ x= .int kd m)(O:ρ y= .int kd m')(U:m'≠0):Yl P ⟨d,.binOp .quo t x y u,ty,p,af,g⟩ ρ s (.int kd (kd.wrap (m.tdiv m'))):=by
 simp [Yl,execOp,lp,pure,bind,Sem.bind,K,O,eqGuard,Go.binOp,Op.intDiv,U]
theorem Yl.and(K:ρ x= .int kd m)(O:ρ y= .int kd m'):Yl P ⟨d,.binOp .and t x y u,ty,p,af,g⟩ ρ s (.int kd (kd.wrap (BitVec.ofInt kd.bits m&&& BitVec.ofInt kd.bits m').toNat)):=by
 simp [Yl,execOp,lp,pure,bind,Sem.bind,K,O,eqGuard,Go.binOp,Op.intBits]
theorem Yl.or(K:ρ x= .int kd m)(O:ρ y= .int kd m'):Yl P ⟨d,.binOp .or t x y u,ty,p,af,g⟩ ρ s (.int kd (kd.wrap (BitVec.ofInt kd.bits m ||| BitVec.ofInt kd.bits m').toNat)):=by
 simp [Yl,execOp,lp,pure,bind,Sem.bind,K,O,eqGuard,Go.binOp,Op.intBits]
theorem Yl.xor(K:ρ x= .int kd m)(O:ρ y= .int kd m'):Yl P ⟨d,.binOp .xor t x y u,ty,p,af,g⟩ ρ s (.int kd (kd.wrap (BitVec.ofInt kd.bits m ^^^ BitVec.ofInt kd.bits m').toNat)):=by
 simp [Yl,execOp,lp,pure,bind,Sem.bind,K,O,eqGuard,Go.binOp,Op.intBits]
theorem Yl.shl(K:ρ x= .int kd m)(O:ρ y= .int kd' m')(U:0≤m'):Yl P ⟨d,.binOp .shl t x y u,ty,p,af,g⟩ ρ s (.int kd (kd.wrap (m*2 ^ (min m'.toNat kd.bits)))):=by
 have:¬m'<0:=by omega
 simp [Yl,execOp,lp,pure,bind,Sem.bind,K,O,eqGuard,Go.binOp,Op.shift,this]
theorem Yl.shr(K:ρ x= .int kd m)(O:ρ y= .int kd' m')(U:0≤m'):Yl P ⟨d,.binOp .shr t x y u,ty,p,af,g⟩ ρ s (.int kd (m.fdiv (2 ^ (min m'.toNat kd.bits)))):=by
 have:¬m'<0:=by omega
 simp [Yl,execOp,lp,pure,bind,Sem.bind,K,O,eqGuard,Go.binOp,Op.shift,this]
theorem Yl.not{c:Bool}(K:ρ x= .bool c):Yl P ⟨d,.unOp .not t x,ty,p,af,g⟩ ρ s (.bool (!c)):=by
 simp [Yl,execOp,lp,pure,bind,Sem.bind,K,Op.unary]
theorem CB(ht:P.underlying t=some (.int kd'))(hu:P.underlying u=some (.int kd))(K:ρ x= .int kd' m):Yl P ⟨d,.convert t u x,ty,p,af,g⟩ ρ s (.int kd (kd.wrap m)):=by
 simp [Yl,execOp,lp,pure,bind,Sem.bind,K,Go.convert,underlying,program,ht,hu,Conv.intToInt]
theorem Yl.extract{vs:Array Value}{i:Nat}(K:ρ x= .tuple vs)(hi:vs[i]? =some v):Yl P ⟨d,.extract x i,ty,p,af,g⟩ ρ s v:=by
 simp [Yl,execOp,lp,pure,bind,Sem.bind,K,Instr.extract,hi]
theorem Yl.nilCheck{a:Addr}(K:ρ x= .pointer (some a)):Yl P ⟨d,.nilCheck x,ty,p,af,g⟩ ρ s (.pointer (some a)):=by
 simp [Yl,execOp,lp,pure,K]
theorem Yl.len{a:Option Addr}{e:TypeId}{l c:Nat}{ats:Array TypeId}(K:ats[0]? =some t)(ht:P.underlying t=some (.slice e))(O:ρ x= .slice a l c):
  Yl P ⟨d,.call ⟨.builtin .len,#[x],ats⟩,ty,p,af,g⟩ ρ s (.int .i64 l):=by
 simp [Yl,execOp,lp,pure,bind,Sem.bind,O,resolve,invoke,builtin,Builtin.len_,K,underlying,program,ht,goInt]
theorem C9{K:TypeDesc}(ht:P.underlying t=some K)(O:∀ms,K≠ .interface ms)(U:ρ x=v):Yl P ⟨d,.makeInterface t x,ty,p,af,g⟩ ρ s (.iface t v):=by
 have:lp P (Instr.makeInterface t v) s (fun r s'=>r= .iface t v∧s'=s) (fun _ _=>False):=by
  unfold Instr.makeInterface;simp only [lp,bind,Sem.bind,underlying,program,ht];cases K <;> first | exact⟨rfl,rfl⟩ | exact absurd rfl (O _)
 simp only [Yl,execOp,U];exact Ah _ _ (BS _ this (fun r s' ⟨V,Y⟩=>⟨by rw [V],Y⟩) (fun _ _ h=>h))
theorem Gu{fn:Fn}{a c:Array Operand}{K O:Array Value}(U:a.map ρ=K)(V:c.map ρ=O):Yl P ⟨d,.makeFunc fn a c,ty,p,af,g⟩ ρ s (.func fn K O):=by
 simp [Yl,execOp,lp,pure,bind,Sem.bind,Instr.makeFunc,U,V]
end
attribute [irreducible] Yl
end Pal
namespace Pal
open Go Go.Conc
def Le(E E':LH):Prop:=∀b o,E b=some o→E' b=some o
theorem Le.refl(E:LH):Le E E:=fun _ _ h=>h
theorem Le.trans{E E' K:LH}(h:Le E E')(k:Le E' K):Le E K:=fun b o x=>k b o (h b o x)
theorem lR_{E:LH}:Le E E:=Le.refl E
theorem Le.trq{a b c:LH}(h:Le a b)(k:Le b c):Le a c:=h.trans k
def AB:List (Nat×Obj)→LH→LH
 | [],H=>H
 | (b,o)::B,H=>fun x=>if x=b then some o else AB B H x
def mk(E H:LH)(B:List (Nat×Obj)):St:=⟨E,AB B H,false⟩
def Nd(E H:LH):List (Nat×Obj)→Prop
 | []=>True
 | (b,_)::B=>E b=none∧H b=none∧(∀p∈B,p.1≠b)∧Nd E H B
theorem MV{H:LH}{b:Nat}:∀{B:List (Nat×Obj)},H b=none→(∀p∈B,p.1≠b)→AB B H b=none
 | [],h,_=>h
 | (c,o)::B,h,hb=>by
  have K:b≠c:=fun e=>hb (c,o) (by simp) e.symm
  simp only [AB,if_neg K]
  exact MV h fun p O=>hb p (List.mem_cons_of_mem _ O)
theorem ED{H:LH}{b:Nat}:∀{B:List (Nat×Obj)},AB B H b=none→H b=none∧∀p∈B,p.1≠b
 | [],h=>⟨h,by simp⟩
 | (c,o)::B,h=>by
  simp only [AB] at h
  split at h
  ·cases h
  ·rename_i O;obtain⟨U,V⟩:=ED h;refine⟨U,fun p K=>?_⟩;rcases List.mem_cons.1 K with rfl | K
   ·exact fun e=>O e.symm
   ·exact V p K
theorem MB{H:LH}{x:Nat}{o:Obj}{r:Nat}:∀{B:List (Nat×Obj)},(∀p∈B,p.1≠r)→AB (B++ [(r,o)]) H x=if x=r then some o else AB B H x
 | [],_=>rfl
 | (c,u)::B,h=>by
  simp only [List.cons_append,AB]
  by_cases e:x=c
  ·subst e
   have:x≠r:=fun e=>h (x,u) (by simp) e;simp [this]
  ·simp only [if_neg e];exact MB fun p K=>h p (List.mem_cons_of_mem _ K)
theorem Nd.append{E H:LH}{r:Nat}{o:Obj}(O:E r=none)(U:H r=none):∀{B:List (Nat×Obj)},(∀p∈B,p.1≠r)→Nd E H B→Nd E H (B++ [(r,o)])
 | [],_,_=>⟨O,U,by simp,trivial⟩
 | (c,u)::B,h,V=>by
  obtain⟨Y,Z,h3,aa⟩:=V
  refine⟨Y,Z,fun p K=>?_,Nd.append O U (fun p K=>h p (List.mem_cons_of_mem _ K)) aa⟩
  rcases List.mem_append.1 K with K | K
  ·exact h3 p K
  ·simp at K;subst K;exact fun e=>h (c,u) (by simp) e.symm
theorem F7{E H:LH}{b:Nat}{o:Obj}:∀{B:List (Nat×Obj)} {i:Nat},Nd E H B→B[i]? =some (b,o)→AB B H b=some o
 | [],_,_,h=>by simp at h
 | (c,u)::B,0,_,h=>by simp at h;obtain⟨rfl,rfl⟩:=h;simp [AB]
 | (c,u)::B,i+1,K,h=>by
  simp at h
  have O:b≠c:=K.2.2.1 (b,o) (List.mem_of_getElem? h)
  simp only [AB,if_neg O]
  exact F7 K.2.2.2 h
theorem Nk{E H:LH}{b:Nat}{o o':Obj}:∀{B:List (Nat×Obj)} {i:Nat},Nd E H B→B[i]? =some (b,o)→AB (B.set i (b,o')) H=fun x=>if x=b then some o' else AB B H x
 | [],_,_,h=>by simp at h
 | (c,u)::B,0,_,h=>by
  simp at h;obtain⟨rfl,rfl⟩:=h
  funext x
  simp only [List.set_cons_zero,AB]
  split <;> rfl
 | (c,u)::B,i+1,K,h=>by
  simp at h
  have O:b≠c:=K.2.2.1 (b,o) (List.mem_of_getElem? h)
  funext x
  simp only [List.set_cons_succ,AB]
  rw [Nk K.2.2.2 h]
  by_cases e:x=c
  ·subst e;simp [Ne.symm O]
  ·simp [e]
theorem Nd.set{E H:LH}{b:Nat}{o o':Obj}:∀{B:List (Nat×Obj)} {i:Nat},Nd E H B→B[i]? =some (b,o)→Nd E H (B.set i (b,o'))
 | [],_,_,h=>by simp at h
 | (c,u)::B,0,K,h=>by simp at h;obtain⟨rfl,rfl⟩:=h;exact K
 | (c,u)::B,i+1,K,h=>by
  simp at h
  refine⟨K.1,K.2.1,fun p O=>?_,K.2.2.2.set h⟩
  have hm:=List.mem_or_eq_of_mem_set O
  rcases hm with hm | rfl
  ·exact K.2.2.1 p hm
  ·exact K.2.2.1 (b,o) (List.mem_of_getElem? h)
theorem Nd.Og{E H:LH}{b:Nat}{o:Obj}:∀{B:List (Nat×Obj)} {i:Nat},Nd E H B→B[i]? =some (b,o)→E b=none
 | [],_,_,h=>by simp at h
 | (c,u)::B,0,K,h=>by simp at h;obtain⟨rfl,rfl⟩:=h;exact K.1
 | (c,u)::B,i+1,K,h=>by simp at h;exact Nd.Og K.2.2.2 h
theorem Li{E H:LH}{B:List (Nat×Obj)}{i b:Nat}{o:Obj}(hN:Nd E H B)(h:B[i]? =some (b,o)):(mk E H B).get b=some o:=by
 unfold St.get mk;simp only [hN.Og h,F7 hN h]
theorem QD{E H:LH}{B:List (Nat×Obj)}{b:Nat}{o:Obj}(h:E b=some o):(mk E H B).get b=some o:=by
 unfold St.get mk;simp only [h]
theorem NS{E H:LH}{B:List (Nat×Obj)}{i b off:Nat}{c:Array Value}{e:TypeId}{f:Nat×Nat}{v:Value}(hN:Nd E H B)(h:B[i]? =some (b,.cells c e f))(K:c[off]? =some v):(mk E H B).cell? ⟨b,off,none⟩=some v:=by
 unfold St.cell?;rw [Li hN h];exact K
theorem Rt{E H:LH}{B:List (Nat×Obj)}{b off:Nat}{c:Array Value}{e:TypeId}{f:Nat×Nat}{v:Value}(h:E b=some (.cells c e f))(K:c[off]? =some v):(mk E H B).cell? ⟨b,off,none⟩=some v:=by
 unfold St.cell?;rw [QD h];exact K
section
variable {P:Program}{J:Judge P}{Q:Goroutine→St→Prop}{b:Frame}{n:Nat}{L L':Env}{ds:List Deferred}{k:List Item}{cs:List Frame}{E H:LH}{B B':List (Nat×Obj)}
theorem Gv{r:Nat}(O:(mk E H B).E r=none)(U:(mk E H B).H r=none)(o:Obj)(hN:Nd E H B):Nd E H (B++ [(r,o)])∧(mk E H B).upd r o=mk E H (B++ [(r,o)]):=by
 obtain⟨h3,K⟩:=ED U;refine⟨Nd.append O h3 K hN,?_⟩;unfold St.upd mk;congr 1;funext x;exact(MB K).symm
theorem US{i K:Nat}{o o':Obj}(hN:Nd E H B)(h:B[i]? =some (K,o)):(mk E H B).upd K o'=mk E H (B.set i (K,o')):=by
 unfold St.upd mk;congr 1;exact(Nk hN h).symm
theorem JL.drop(B':List (Nat×Obj))(h:∀p∈B',∃i:Nat,B[i]? =some p)(hN:Nd E H B)(k':JL J Q b n L ds k cs (mk E H B')):JL J Q b n L ds k cs (mk E H B):=
 JL.ghost (s':=mk E H B') ⟨fun _ _ h=>h,fun x o O=>by
  show AB B H x=some o
  have key:∀{B':List (Nat×Obj)},(∀p∈B',∃i:Nat,B[i]? =some p)→AB B' H x=some o→AB B H x=some o:=by
   intro B'
   induction B' with
   | nil=>
    intro _ O
    have aa:∀p∈B,p.1≠x:=by
     intro p K e
     have:∀{B:List (Nat×Obj)},Nd E H B→p∈B→H p.1=none:=by
      intro B hN K
      induction B with
      | nil=>simp at K
      | cons q B U=>
       rcases List.mem_cons.1 K with rfl | K
       ·exact hN.2.1
       ·exact U hN.2.2.2 K
     have Y:=this hN K
     rw [e] at Y
     have Z:H x=some o:=O
     rw [Y] at Z;cases Z
    have:∀{B:List (Nat×Obj)},(∀p∈B,p.1≠x)→AB B H x=H x:=by
     intro B V
     induction B with
     | nil=>rfl
     | cons q B U=>
      have ab:x≠q.1:=fun e=>V q (by simp) e.symm
      obtain⟨c,u⟩:=q
      simp only [AB,if_neg ab]
      exact U fun p K=>V p (List.mem_cons_of_mem _ K)
    rw [this aa];exact O
   | cons q B' U=>
    intro V O
    obtain⟨c,u⟩:=q
    simp only [AB] at O
    split at O
    ·rename_i e;subst e;cases O
     obtain⟨i,hi⟩:=V (x,o) (by simp)
     exact F7 hN hi
    ·exact U (fun p K=>V p (List.mem_cons_of_mem _ K)) O
  exact key h O,fun _ _ h=> .inl h,rfl⟩ k'
theorem K1{x:Nat}:∀{B:List (Nat×Obj)} {i:Nat} {O:Nat} {o u:Obj},Nd E H B→B[i]? =some (O,o)→AB (B.eraseIdx i) H x=some u→x≠O∧AB B H x=some u
 | [],_,_,_,_,_,h,_=>by simp at h
 | (c,v)::B,0,O,o,u,U,h,K=>by
  simp at h;obtain⟨rfl,rfl⟩:=h
  simp only [List.eraseIdx_cons_zero] at K
  have V:x≠c:=by
   intro e;subst e;rw [MV U.2.1 U.2.2.1] at K;cases K
  exact⟨V,by simp only [AB,if_neg V];exact K⟩
 | (c,v)::B,i+1,O,o,u,U,h,K=>by
  simp at h;simp only [List.eraseIdx_cons_succ,AB] at K ⊢;split at K
  ·rename_i e;subst e;rw [if_pos rfl];exact⟨fun e=>U.2.2.1 (O,o) (List.mem_of_getElem? h) e.symm,K⟩
  ·rename_i e;rw [if_neg e];exact K1 U.2.2.2 h K
theorem JL.freeze(i:Nat){K:Nat}{o:Obj}(hN:Nd E H B)(h:B[i]? =some (K,o))
  (k':∀E',Le E E'→E' K=some o→Nd E' H (B.eraseIdx i)→JL J Q b n L ds k cs (mk E' H (B.eraseIdx i))):JL J Q b n L ds k cs (mk E H B):=by
 have ae:=List.mem_of_getElem? h;have ag:E K=none∧H K=none:=by
  have:∀{B:List (Nat×Obj)},Nd E H B→(K,o)∈B→E K=none∧H K=none:=by
   intro B hN O
   induction B with
   | nil=>simp at O
   | cons q B V=>
    rcases List.mem_cons.1 O with rfl | O
    ·exact⟨hN.1,hN.2.1⟩
    ·exact V hN.2.2.2 O
  exact this hN ae
 let E':LH:=fun x=>if x=K then some o else E x
 have aa:E' K=some o:=by simp [E']
 have hle:Le E E':=fun x u U=>by
  have:x≠K:=fun e=>by subst e;rw [ag.1] at U;cases U
  simp [E',this,U]
 have ah:Nd E' H (B.eraseIdx i):=by
  have:∀{B:List (Nat×Obj)} {i:Nat},Nd E H B→B[i]? =some (K,o)→Nd E' H (B.eraseIdx i)∧∀p∈B.eraseIdx i,p.1≠K:=by
   intro B
   induction B with
   | nil=>intro i _ h;simp at h
   | cons q B V=>
    obtain⟨c,v⟩:=q;intro i hN h;have up:∀{B:List (Nat×Obj)},Nd E H B→(∀p∈B,p.1≠K)→Nd E' H B:=by
     intro B hN ab
     induction B with
     | nil=>trivial
     | cons q B ai=>exact⟨by simpa [E',ab q (by simp)] using hN.1,hN.2.1,hN.2.2.1,ai hN.2.2.2 fun p O=>ab p (List.mem_cons_of_mem _ O)⟩
    cases i with
    | zero=>
     simp at h;obtain⟨rfl,rfl⟩:=h;exact⟨up hN.2.2.2 hN.2.2.1,hN.2.2.1⟩
    | succ i=>
     simp at h;obtain⟨Y,Z⟩:=V hN.2.2.2 h;have ac:c≠K:=fun e=>hN.2.2.1 (K,o) (List.mem_of_getElem? h) e.symm;refine⟨⟨by simpa [E',ac] using hN.1,hN.2.1,fun p O=>hN.2.2.1 p (List.mem_of_mem_eraseIdx O),Y⟩,fun p O=>?_⟩;rcases List.mem_cons.1 O with rfl | O
     ·exact ac
     ·exact Z p O
  exact(this hN h).1
 refine JL.ghost (s':=mk E' H (B.eraseIdx i)) ⟨fun x u U=>hle x u U,fun x u U=>(K1 hN h U).2,fun x u U=>?_,rfl⟩ (k' E' hle aa ah);by_cases e:x=K
 ·subst e;right;have:u=o:=by have:E' x=some u:=U;rw [aa] at this;exact(Option.some.inj this).symm
  subst this;refine⟨F7 hN h,?_⟩;cases aj:(mk E' H (B.eraseIdx i)).H x with
  | none=>rfl
  | some y=>exact absurd rfl (K1 hN h aj).1
 ·left;have Y:E' x=some u:=U;have Z:E' x=E x:=by simp [E',e]
  show E x=some u;rw [← Z];exact Y
def Fn(P:Program)(f:FuncId)(args:Array Value)(s:St)(R:Value→St→Prop):Prop:=
 ∀(J:Judge P) (Q:Goroutine→St→Prop) (c:Frame) (cs:List Frame),(∀v s',R v s'→J.ok Q (G (c.finish v) cs) s')→J.ok Q (G (Frame.enter P f args .normal) (c::cs)) s
def Ch(P:Program)(f:FuncId):Bool:=match P.funcs[f]? with | some fn=> !(fn.name== "runtime.NumGoroutine")&&fn.body.isSome | none=>false
def evs(L:Env):List Operand→Option (List Value)
 | []=>some []
 | x::xs=>match ev L x,evs L xs with | some v,some vs=>some (v::vs) | _,_=>none
theorem DV{L:Env}{ρ:Operand→Value}(h:CN L ρ):∀{xs:List Operand} {vs:List Value},evs L xs=some vs→xs.map ρ=vs
 | [],vs,e=>by simp [evs] at e;subst e;rfl
 | x::xs,vs,e=>by
  simp only [evs] at e
  split at e
  ·rename_i v ws K O
   cases e;rw [List.map_cons,h x v K,DV h O]
  ·cases e
theorem GX{f:FuncId}{args:Array Value}{s:St}{Q:Next→St→Prop}{X:Halt→St→Prop}(K:Ch P f=true)(h:Q (.enter f args) s):lp P (callFunc f args) s Q X:=by
 unfold Ch at K;unfold callFunc;simp only [bind,Sem.bind,program,lp];cases O:P.funcs[f]? with
 | none=>rw [O] at K;cases K
 | some fn=>
  rw [O] at K;simp only [Bool.and_eq_true,Bool.not_eq_true'] at K;have hb:fn.body.isNone=false:=by cases U:fn.body <;> simp_all
  simp only [K.1,hb,Bool.false_eq_true,if_false];exact h
def Bc(P:Program)(f:FuncId)(L:Env)(n:Nat)(s:St)(v:Value):Prop:=∃fn,P.funcs[f]? =some fn∧∀T,Has n L T→lp P (results fn T) s (fun u s'=>u=v∧s'=s) (fun _ _=>False)
theorem Judge.leave{T:Array Value}{todo:List Item}{c:Frame}{s:St}{v:Value}{fn:Func}(V:b.kind= .normal)(Y:P.funcs[b.fn]? =some fn)(U:lp P (results fn T) s (fun u s'=>u=v∧s'=s) (fun _ _=>False))
  (h:J.ok Q (G (c.finish v) cs) s):J.ok Q (G (CC b T [] todo) (c::cs)) s:=by
 refine J.step ⟨rfl,fun w f=>?_,fun e=>?_⟩
 rotate_left
 ·subst e;obtain⟨es,he,ab,U⟩:=Lu _ U;have ac:seen P b.fn es= #[]:=KZ ab;rcases U with⟨u,⟨rfl,_⟩,O⟩ | ⟨x,K,_⟩
  ·exact⟨_,fun w=>by simp [G,stepG,unwind,CC,Y,O,doReturn,V,GStep.after,he,ac],h⟩
  ·exact K.elim
 obtain⟨s',Z,aa,h3,K⟩:=I9 _ U f;cases O:(results fn T).run P w with
 | halt x w'=>rw [O] at K;exact K.elim
 | ok u w'=>
  rw [O] at Z aa h3 K;obtain⟨rfl,rfl⟩:=K;exact⟨_,s',w',seen P b.fn ((results fn T).events P w #[])++ #[],by simp [G,stepG,unwind,CC,Y,O,doReturn,V,GStep.after],h,Z,aa,by simp only [Array.append_empty];exact LA h3⟩
theorem JL.ret{s:St}{c:Frame}{v:Value}(O:b.kind= .normal)(U:b.roundOf=none)(K:Bc P b.fn L n s v)(h:J.ok Q (G (c.finish v) cs) s):JL J Q b n L [] (.code .ret::k) (c::cs) s:=fun T V=>by
 obtain⟨fn,Y,K⟩:=K
 refine Judge.BO (g':=G (CC b T [] (.code .ret::k)) (c::cs)) rfl (fun w=>by simp [G,stepG,stepG.exec,fr,CC,U]) ?_
 exact Judge.leave O Y (K T V) h
theorem JL.fin{s:St}{c:Frame}{v:Value}(O:b.kind= .normal)(U:b.roundOf=none)(K:Bc P b.fn L n s v)(h:J.ok Q (G (c.finish v) cs) s):JL J Q b n L [] [] (c::cs) s:=fun T V=>by
 obtain⟨fn,Y,K⟩:=K
 refine Judge.BO (g':=G (CC b T [] []) (c::cs)) rfl (fun w=>by simp [G,stepG,stepG.exec,fr,CC,U]) ?_
 exact Judge.leave O Y (K T V) h
theorem Bc.one{f:FuncId}{fn:Func}{s:St}{t:Tmp}{v:Value}(K:P.funcs[f]? =some fn)(O:fn.results= #[.tmp t])(h:look L t=some v):Bc P f L n s v:=
 ⟨fn,K,fun T U=>by
  have e:results fn T=Sem.pure v:=by
   have:=U.at_ t v h
   simp only [results,O,Array.mapM_eq_mapM_toList]
   show Sem.pure (T.getD t undef)=_
   rw [this]
  rw [e];exact⟨rfl,rfl⟩⟩
theorem Bc.none{f:FuncId}{fn:Func}{s:St}(K:P.funcs[f]? =some fn)(O:fn.results= #[]):Bc P f L n s (.tuple #[]):=
 ⟨fn,K,fun T U=>by
  have e:results fn T=Sem.pure (.tuple #[]):=by
   simp only [results,O,Array.mapM_eq_mapM_toList]
   rfl
  rw [e];exact⟨rfl,rfl⟩⟩
def DY:Nat→List Value→Env
 | _,[]=> []
 | i,v::vs=>(i,v)::DY (i+1) vs
theorem GZ{i:Nat}{vs:List Value}{t:Nat}{v:Value}(h:look (DY i vs) t=some v):i≤t∧vs[t - i]? =some v:=by
 induction vs generalizing i with
 | nil=>simp [DY,look] at h
 | cons u vs K=>
  simp only [DY,look] at h;split at h
  ·rename_i e;subst e;cases h;simp
  ·rename_i U;obtain⟨V,O⟩:=K h;refine⟨by omega,?_⟩;have:t - i=(t - (i+1))+1:=by omega
   rw [this];simpa using O
end
end Pal
namespace Pal
open Go Go.Conc
def A0(P:Program)(t:TypeId):Option Nat:=(P.info? t).map (·.size)
def Ce(P:Program)(t:TypeId):Option Bool:=match P.underlying t with | some (.struct _)=>some true | some (.array _ _)=>some true | some _=>some false | none=>none
def zeroOf(P:Program)(t:TypeId):Option Value:=(P.info? t).bind (·.zero)
section
variable {P:Program}{s:St}{t:TypeId}
theorem Da{K:Nat}{Q:Nat→St→Prop}{X:Halt→St→Prop}(h:A0 P t=some K)(k:Q K s):lp P (Go.sizeOf t) s Q X:=by
 unfold A0 at h;simp only [Go.sizeOf,typeInfo,bind,Sem.bind,program,lp];cases hi:P.info? t with
 | none=>rw [hi] at h;cases h
 | some i=>rw [hi] at h;simp at h;subst h;exact k
theorem D6{z:Value}{Q:Value→St→Prop}{X:Halt→St→Prop}(h:zeroOf P t=some z)(k:Q z s):lp P (zeroValue t) s Q X:=by
 unfold zeroOf at h;simp only [zeroValue,typeInfo,bind,Sem.bind,program,lp];cases hi:P.info? t with
 | none=>rw [hi] at h;cases h
 | some i=>
  rw [hi] at h;simp at h;show lp P (match i.zero with | some v=>pure v | none=>unsupported _) s Q X
  rw [h];exact k
theorem HX{c:Bool}{Q:Bool→St→Prop}{X:Halt→St→Prop}(h:Ce P t=some c)(k:Q c s):lp P (isAgg t) s Q X:=by
 unfold Ce at h;simp only [isAgg,underlying,bind,Sem.bind,program,lp];cases hu:P.underlying t with
 | none=>rw [hu] at h;cases h
 | some u=>
  rw [hu] at h;cases u <;> simp at h <;> subst h <;> exact k
theorem BM{u:TypeDesc}{Q:TypeDesc→St→Prop}{X:Halt→St→Prop}(h:P.underlying t=some u)(k:Q u s):lp P (underlying t) s Q X:=by
 simp only [underlying,bind,Sem.bind,program,lp,h];exact k
theorem Ow{a:Addr}{v:Value}{Q:Value→St→Prop}{X:Halt→St→Prop}(h:s.cell? a=some v)(k:Q v s):lp P (load a) s Q X:=⟨rfl,v,h,k⟩
theorem Mz{a:Addr}{Q:Array Value→St→Prop}{X:Halt→St→Prop}:∀(vs:List Value) (i:Nat) (acc:Array Value),(∀j v,vs[j]? =some v→s.cell? (a.add (i+j))=some v)→Q (acc++vs.toArray) s→lp P (loadCellsFrom a i vs.length acc) s Q X
 | [],i,acc,_,k=>by simpa [loadCellsFrom,lp,pure] using k
 | v::vs,i,acc,h,k=>by
  simp only [List.length_cons,loadCellsFrom]
  refine Ah _ _ (Ow (h 0 v rfl) ?_)
  refine Mz vs (i+1) (acc.push v) (fun j u K=>?_) (by simpa using k)
  have:=h (j+1) u (by simpa using K)
  rwa [show i+1+j=i+(j+1) from by omega]
theorem ME{a:Addr}{vs:List Value}{m:Nat}{Q:Array Value→St→Prop}{X:Halt→St→Prop}(hm:m=vs.length)(h:∀j v,vs[j]? =some v→s.cell? (a.add j)=some v)(k:Q vs.toArray s):lp P (loadCells a m) s Q X:=by
 subst hm;exact Mz vs 0 #[] (fun j v K=>by simpa using h j v K) (by simpa using k)
theorem Qu{a:Addr}{v:Value}{Q:Value→St→Prop}{X:Halt→St→Prop}(ht:Ce P t=some false)(h:s.cell? a=some v)(k:Q v s):lp P (loadVar t a) s Q X:=by
 unfold loadVar;refine Ah _ _ (HX ht ?_);exact Ow h k
theorem MI{a:Addr}{vs:List Value}{Q:Value→St→Prop}{X:Halt→St→Prop}(ht:Ce P t=some true)(K:A0 P t=some vs.length)(h:∀j v,vs[j]? =some v→s.cell? (a.add j)=some v)(k:Q (.agg vs.toArray) s):lp P (loadVar t a) s Q X:=by
 unfold loadVar;refine Ah _ _ (HX ht ?_);show lp P (do let r ← loadCells a (← Go.sizeOf t);pure (Value.agg r)) s Q X
 refine Ah (x:=Go.sizeOf t) _ (Da K ?_);refine Ah _ _ (ME rfl h ?_);exact k
end
section
variable {P:Program}{ρ:Operand→Value}{s:St}{x y z:Operand}{d:Option Tmp}{t u ty e:TypeId}{p:String}{af:Array Edge}{g:Option (Nat×Bool)}{v:Value}{kd kd':IntKind}{m m':Int}
theorem Dl{o:Oper}{sm:Sem Value}(K:execOp ρ o=(do pure (Next.value (← sm))))(h:lp P sm s (fun r s'=>r=v∧s'=s) (fun _ _=>False)):Yl P o ρ s v:=by
 unfold Yl;rw [K];exact Ah _ _ (BS _ h (fun r s' ⟨O,U⟩=>⟨by rw [O],U⟩) (fun _ _ h=>h))
theorem Yl.load{a:Addr}(ht:Ce P t=some false)(K:ρ x= .pointer (some a))(h:s.cell? a=some v):Yl P ⟨d,.load t x,ty,p,af,g⟩ ρ s v:=
 Dl (sm:=Instr.loadAt t (ρ x)) rfl (by rw [K];exact Qu ht h ⟨rfl,rfl⟩)
theorem A2{a:Addr}{vs:List Value}(ht:Ce P t=some true)(K:A0 P t=some vs.length)(O:ρ x= .pointer (some a))(h:∀j v,vs[j]? =some v→s.cell? (a.add j)=some v):Yl P ⟨d,.load t x,ty,p,af,g⟩ ρ s (.agg vs.toArray):=
 Dl (sm:=Instr.loadAt t (ρ x)) rfl (by rw [O];exact MI ht K h ⟨rfl,rfl⟩)
theorem Yl.fieldAddr{a:Addr}{K:Array Field}{i:Nat}{fl:Field}{O:Nat}(ht:P.underlying t=some (.struct K))(hi:K[i]? =some fl)(U:A0 P fl.type=some (O+1))(V:ρ x= .pointer (some a)):
  Yl P ⟨d,.fieldAddr t x i,ty,p,af,g⟩ ρ s (.pointer (some (a.add fl.offset))):=
 Dl (sm:=Instr.fieldAt t (ρ x) i) rfl (by
  rw [V];unfold Instr.fieldAt
  refine Ah _ _ (BM ht ?_)
  simp only [hi,Instr.sureAddr,bind,Sem.bind,pure]
  refine Ah (x:=fieldPlace a fl) _ ?_
  unfold fieldPlace
  refine Ah _ _ (Da U ?_)
  simp only [Nat.add_eq_zero_iff,Nat.succ_ne_self,and_false,if_false,lp,pure]
  exact⟨trivial,trivial⟩)
theorem I2{a:Addr}{l c K:Nat}(ht:P.underlying t=some (.slice e))(O:A0 P e=some K)(U:ρ x= .slice (some a) l c)(V:ρ y= .int kd m)(h:0≤m∧m<l):
  Yl P ⟨d,.indexAddr t x y,ty,p,af,g⟩ ρ s (.pointer (some (a.add (m.toNat*K)))):=
 Dl (sm:=Instr.indexAt t (ρ x) (ρ y)) rfl (by
  rw [U,V];unfold Instr.indexAt
  simp only [asIntOf,bind,Sem.bind,pure]
  refine Ah (x:=underlying t) _ (BM ht ?_)
  simp only [Sem.bind]
  refine Ah (x:=underlying t) _ (BM ht ?_)
  simp only [Sem.bind,h,and_self,if_true]
  refine Ah (x:=Go.sizeOf e) _ (Da O ?_)
  exact⟨rfl,rfl⟩)
theorem M4{a:Addr}{l K:Nat}(ht:P.underlying t=some (.array l e))(O:A0 P e=some K)(U:ρ x= .pointer (some a))(V:ρ y= .int kd m)(h:0≤m∧m<l):
  Yl P ⟨d,.indexAddr t x y,ty,p,af,g⟩ ρ s (.pointer (some (a.add (m.toNat*K)))):=
 Dl (sm:=Instr.indexAt t (ρ x) (ρ y)) rfl (by
  rw [U,V];unfold Instr.indexAt
  simp only [asIntOf,bind,Sem.bind,pure]
  refine Ah (x:=underlying t) _ (BM ht ?_)
  simp only [Sem.bind,Instr.sureAddr,pure]
  refine Ah (x:=underlying t) _ (BM ht ?_)
  simp only [Sem.bind,h,and_self,if_true]
  refine Ah (x:=Go.sizeOf e) _ (Da O ?_)
  exact⟨rfl,rfl⟩)
end
section
variable {P:Program}{J:Judge P}{Q:Goroutine→St→Prop}{b:Frame}{n:Nat}{L L':Env}{ds:List Deferred}{k:List Item}{cs:List Frame}{E H:LH}{B B':List (Nat×Obj)}
variable {ops:Array Oper}{i:Nat}{rest:List Nat}{d:Option Tmp}{x y:Operand}{t u ty e:TypeId}{p:String}{af:Array Edge}{g:Option (Nat×Bool)}{v:Value}
theorem Fc{cells:Array Value}{Q:Addr→St→Prop}{X:Halt→St→Prop}(hN:Nd E H B)(k:∀r,Nd E H (B++ [(r,.cells cells e (0,0))])→Q ⟨r,0,none⟩ (mk E H (B++ [(r,.cells cells e (0,0))]))):lp P (newRow e cells) (mk E H B) Q X:=by
 simp only [newRow,newObj,bind,Sem.bind,lp,pure];refine⟨rfl,fun r K O=>?_⟩;obtain⟨h3,U⟩:=Gv K O (.cells cells e (0,0)) hN;rw [U];exact k r h3
theorem JL.alloc{z:Value}(K:ops[i]? =some ⟨d,.alloc e,ty,p,af,g⟩)(hw:Az L ops ⟨d,.alloc e,ty,p,af,g⟩=some true)(O:Bw b n ⟨d,.alloc e,ty,p,af,g⟩=true)(hN:Nd E H B)(U:zeroOf P e=some z)
  (h:∀r,Nd E H (B++ [(r,.cells z.cells e (0,0))])→JL J Q b n (Aj L d (.pointer (some ⟨r,0,none⟩))) ds (.inRegion ops rest::k) cs (mk E H (B++ [(r,.cells z.cells e (0,0))]))):
  JL J Q b n L ds (.inRegion ops (i::rest)::k) cs (mk E H B):=
 JL.op K hw O fun ρ _=>by
  show lp P (do pure (Next.value (← Instr.alloc e true (.tuple #[])))) _ _ _
  refine Ah _ _ ?_
  unfold Instr.alloc
  refine Ah _ _ (D6 U ?_)
  refine Ah _ _ (Fc hN fun r V=>?_)
  exact h r V
theorem JL.box(K:ops[i]? =some ⟨d,.box e x,ty,p,af,g⟩)(hw:Az L ops ⟨d,.box e x,ty,p,af,g⟩=some true)(O:Bw b n ⟨d,.box e x,ty,p,af,g⟩=true)(hN:Nd E H B)(U:ev L x=some v)
  (h:∀r,Nd E H (B++ [(r,.cells v.cells e (0,0))])→JL J Q b n (Aj L d (.pointer (some ⟨r,0,none⟩))) ds (.inRegion ops rest::k) cs (mk E H (B++ [(r,.cells v.cells e (0,0))]))):
  JL J Q b n L ds (.inRegion ops (i::rest)::k) cs (mk E H B):=
 JL.op K hw O fun ρ V=>by
  show lp P (do pure (Next.value (← Instr.box e (ρ x)))) _ _ _
  rw [V x v U]
  refine Ah _ _ ?_
  unfold Instr.box
  refine Ah _ _ (Fc hN fun r Y=>?_)
  exact h r Y
def AJ(c:Array Value)(off:Nat):List Value→Array Value
 | []=>c
 | v::vs=>AJ (c.setIfInBounds off v) (off+1) vs
theorem Lf(c:Array Value)(off:Nat)(vs:List Value):(AJ c off vs).size=c.size:=by
 induction vs generalizing c off with
 | nil=>rfl
 | cons v vs K=>simp [AJ,K]
theorem KX{K:Nat}{Q:Unit→St→Prop}{X:Halt→St→Prop}{pl off:Nat}{sp:Option Nat}:∀(vs:List Value) (j:Nat) (c:Array Value) (B:List (Nat×Obj)),(∀v∈vs,Ba v=true)→Nd E H B→B[pl]? =some (K,.cells c e (0,0))→off+j+vs.length≤c.size→(sp=none∨0<j)→
  (∀B',B'=B.set pl (K,.cells (AJ c (off+j) vs) e (0,0))→Nd E H B'→Q () (mk E H B'))→lp P (storeCells ⟨K,off,sp⟩ vs j) (mk E H B) Q X
 | [],j,c,B,_,hN,O,_,_,k=>by
  simp only [storeCells,lp,pure]
  refine k B ?_ hN
  simp only [AJ]
  exact(List.ext_getElem? fun i=>by
   by_cases hi:pl=i
   ·subst hi
    obtain⟨Y,Z⟩:=List.getElem?_eq_some_iff.1 O
    simp [Y,Z]
   ·simp [hi])
 | v::vs,j,c,B,U,hN,O,hle,V,k=>by
  simp only [storeCells,List.length_cons] at*
  have aa:off+j<c.size:=by omega
  have ab:(Addr.add ⟨K,off,sp⟩ j)=⟨K,off+j,none⟩:=by
   unfold Addr.add;split
   ·rename_i ac;subst ac;rcases V with rfl | V
    ·rfl
    ·omega
   ·rfl
  have ae:(cellAt (.cells c e (0,0)) ⟨K,off+j,none⟩).isSome=true:=by simp [cellAt,aa]
  refine Ah (x:=store (Addr.add ⟨K,off,sp⟩ j) v) _ ?_;rw [ab];refine⟨rfl,U v (by simp),_,F7 hN O,ae,by simp [frozenAt],?_⟩;simp only [lp];have ag:GG (.cells c e (0,0)) ⟨K,off+j,none⟩ v= .cells (c.setIfInBounds (off+j) v) e (0,0):=by simp [GG]
  rw [ag,US hN O];have ah:(B.set pl (K,.cells (c.setIfInBounds (off+j) v) e (0,0)))[pl]? =some (K,.cells (c.setIfInBounds (off+j) v) e (0,0)):=by
   have:pl<B.length:=(List.getElem?_eq_some_iff.1 O).1;simp [this]
  refine KX vs (j+1) _ _ (fun u hu=>U u (List.mem_cons_of_mem _ hu)) (hN.set O) ah (by simp;omega) (.inr (by omega)) fun ai aj ak=>k ai ?_ ak;rw [aj,List.set_set];simp only [AJ]
  rfl
theorem K8{K off pl:Nat}{c:Array Value}{Q:Unit→St→Prop}{X:Halt→St→Prop}(O:A0 P t=some v.cells.size)(U:∀u∈v.cells.toList,Ba u=true)(hN:Nd E H B)(V:B[pl]? =some (K,.cells c e (0,0)))(hle:off+v.cells.size≤c.size)
  (k:Nd E H (B.set pl (K,.cells (AJ c off v.cells.toList) e (0,0)))→Q () (mk E H (B.set pl (K,.cells (AJ c off v.cells.toList) e (0,0))))):lp P (storeVar t ⟨K,off,none⟩ v) (mk E H B) Q X:=by
 unfold storeVar;refine Ah _ _ (Da O ?_);simp only [ne_eq,not_true_eq_false,if_false];refine KX v.cells.toList 0 c B U hN V (by simpa using hle) (.inl rfl) fun B' e Y=>?_;subst e;exact k Y
theorem JL.store{K off:Nat}{c:Array Value}(pl:Nat)(U:ops[i]? =some ⟨d,.store t x y,ty,p,af,g⟩)(hw:Az L ops ⟨d,.store t x y,ty,p,af,g⟩=some true)(V:Bw b n ⟨d,.store t x y,ty,p,af,g⟩=true)(hN:Nd E H B)
  (Y:ev L x=some (.pointer (some ⟨K,off,none⟩))) (Z:ev L y=some v) (aa:A0 P t=some v.cells.size) (ab:∀u∈v.cells.toList,Ba u=true) (ac:B[pl]? =some (K,.cells c e (0,0))) (hle:off+v.cells.size≤c.size)
  (h:Nd E H (B.set pl (K,.cells (AJ c off v.cells.toList) e (0,0)))→JL J Q b n (Aj L d undef) ds (.inRegion ops rest::k) cs (mk E H (B.set pl (K,.cells (AJ c off v.cells.toList) e (0,0))))):
  JL J Q b n L ds (.inRegion ops (i::rest)::k) cs (mk E H B):=
 JL.op U hw V fun ρ O=>by
  show lp P (do Instr.storeAt t (ρ x) (ρ y);pure Next.skip) _ _ _
  rw [O x _ Y,O y _ Z]
  refine Ah _ _ ?_
  unfold Instr.storeAt
  simp only [Instr.sureAddr,bind,Sem.bind,pure]
  exact K8 aa ab hN ac hle fun ae=>h ae
end
end Pal
namespace Pal
open Go Go.Conc
def C6(P:Program)(t:TypeId):Option Nat:=(P.info? t).map (·.bytes)
section
variable {P:Program}{J:Judge P}{Q:Goroutine→St→Prop}{b:Frame}{n:Nat}{L L':Env}{ds:List Deferred}{k:List Item}{cs:List Frame}{E H:LH}{B B':List (Nat×Obj)}{s:St}
variable {ops:Array Oper}{i:Nat}{rest:List Nat}{d:Option Tmp}{x y:Operand}{t u ty e:TypeId}{p:String}{af:Array Edge}{g:Option (Nat×Bool)}{v:Value}
theorem F4{inf:TypeInfo}{Q:TypeInfo→St→Prop}{X:Halt→St→Prop}(h:P.info? t=some inf)(k:Q inf s):lp P (typeInfo t) s Q X:=by
 simp only [typeInfo,bind,Sem.bind,program,lp,h];exact k
theorem I1{K:Nat}(h:C6 P t=some K):∃inf,P.info? t=some inf∧inf.bytes=K:=by
 unfold C6 at h;cases hi:P.info? t with
 | none=>rw [hi] at h;cases h
 | some i=>rw [hi] at h;simp at h;exact⟨i,rfl,h⟩
theorem FE{β:Type}{z y:Nat}{code:BoundsCode}{f:Nat→Sem β}{K:β→St→Prop}{X:Halt→St→Prop}(V:z≤y)(O:lp P (f z) s K X):lp P (Instr.sliceBound (.int .i64 z) y code>>=f) s K X:=by
 refine Ah _ _ ?_;unfold Instr.sliceBound;have U:(0:Int)≤(z:Int)∧(z:Int)≤(y:Int):=⟨by omega,by omega⟩;simp only [asIntOf,bind,Sem.bind,pure];rw [if_pos U];simpa [lp] using O
theorem Fa{α β:Type}(a:α)(f:α→Sem β):((pure a:Sem α)>>=f)=f a:=rfl
theorem VV{l c:Nat}{X:Halt→St→Prop}:lp P (Instr.sliceBounds true l c none none none) s (fun r s'=>r=(0,l,c)∧s'=s) X:=by
 unfold Instr.sliceBounds;exact⟨rfl,rfl⟩
theorem VH{l c:Nat}{lo:Nat}(K:lo≤l){X:Halt→St→Prop}:lp P (Instr.sliceBounds true l c (some (.int .i64 lo)) none none) s (fun r s'=>r=(lo,l,c)∧s'=s) X:=by
 simp only [Instr.sliceBounds,if_true,Option.isSome_none,Option.isSome_some,Bool.false_eq_true,if_false,Fa];exact FE K ⟨rfl,rfl⟩
theorem V2{l c:Nat}{hi:Nat}(hh:hi≤c){X:Halt→St→Prop}:lp P (Instr.sliceBounds true l c none (some (.int .i64 hi)) none) s (fun r s'=>r=(0,hi,c)∧s'=s) X:=by
 simp only [Instr.sliceBounds,if_true,Option.isSome_none,Option.isSome_some,Bool.false_eq_true,if_false,Fa];exact FE hh ⟨rfl,rfl⟩
theorem VQ{l c:Nat}{lo hi:Nat}(hh:hi≤c)(K:lo≤hi){X:Halt→St→Prop}:lp P (Instr.sliceBounds true l c (some (.int .i64 lo)) (some (.int .i64 hi)) none) s (fun r s'=>r=(lo,hi,c)∧s'=s) X:=by
 have e:Instr.sliceBounds true l c (some (.int .i64 lo)) (some (.int .i64 hi)) none=(Instr.sliceBound (.int .i64 hi) c .sliceAcap>>=fun h=>Instr.sliceBound (.int .i64 lo) h .sliceB>>=fun l=>pure (l,h,c)):=by
  simp [Instr.sliceBounds]
 rw [e];exact FE hh (FE K ⟨rfl,rfl⟩)
theorem VO{l c:Nat}{hi mx:Nat}(hm:mx≤c)(hh:hi≤mx){X:Halt→St→Prop}:lp P (Instr.sliceBounds true l c none (some (.int .i64 hi)) (some (.int .i64 mx))) s (fun r s'=>r=(0,hi,mx)∧s'=s) X:=by
 simp only [Instr.sliceBounds,if_true,Option.isSome_none,Option.isSome_some,Bool.false_eq_true,if_false,Fa];exact FE hm (FE hh ⟨rfl,rfl⟩)
theorem VS{l c:Nat}{lo hi mx:Nat}(hm:mx≤c)(hh:hi≤mx)(K:lo≤hi){X:Halt→St→Prop}:lp P (Instr.sliceBounds true l c (some (.int .i64 lo)) (some (.int .i64 hi)) (some (.int .i64 mx))) s (fun r s'=>r=(lo,hi,mx)∧s'=s) X:=by
 simp only [Instr.sliceBounds,if_true,Option.isSome_none,Option.isSome_some,Bool.false_eq_true,if_false,Fa];exact FE hm (FE hh (FE K ⟨rfl,rfl⟩))
theorem Q5{l c lo hi mx:Nat}{U V Y:Option Value}{X:Halt→St→Prop}
  (O:match Y with | some w=>w= .int .i64 mx | none=>mx=c) (K:match V with | some w=>w= .int .i64 hi | none=>hi=l∧Y=none) (h3:match U with | some w=>w= .int .i64 lo | none=>lo=0) (hm:mx≤c) (hh:hi≤mx) (Z:lo≤hi):
  lp P (Instr.sliceBounds true l c U V Y) s (fun r s'=>r=(lo,hi,mx)∧s'=s) X:=by
 cases Y with
 | none=>
  cases V with
  | none=>
   cases U with
   | none=>obtain rfl:mx=c:=O;obtain rfl:hi=l:=K.1;obtain rfl:lo=0:=h3;exact VV
   | some w=>obtain rfl:mx=c:=O;obtain rfl:hi=l:=K.1;obtain rfl:w= .int .i64 lo:=h3;exact VH Z
  | some w=>
   cases U with
   | none=>obtain rfl:mx=c:=O;obtain rfl:w= .int .i64 hi:=K;obtain rfl:lo=0:=h3;exact V2 hh
   | some w'=>obtain rfl:mx=c:=O;obtain rfl:w= .int .i64 hi:=K;obtain rfl:w'= .int .i64 lo:=h3;exact VQ hh Z
 | some w0=>
  cases V with
  | none=>exact absurd K.2 (fun h=>by cases h)
  | some w=>
   cases U with
   | none=>obtain rfl:w0= .int .i64 mx:=O;obtain rfl:w= .int .i64 hi:=K;obtain rfl:lo=0:=h3;exact VO hm hh
   | some w'=>obtain rfl:w0= .int .i64 mx:=O;obtain rfl:w= .int .i64 hi:=K;obtain rfl:w'= .int .i64 lo:=h3;exact VS hm hh Z
theorem Sq{a:Option Addr}{l c O lo hi mx:Nat}{U V K:Option Value}{Q:Value→St→Prop}{X:Halt→St→Prop}(ht:P.underlying t=some (.slice e))(Y:A0 P e=some O)
  (Z:match K with | some w=>w= .int .i64 mx | none=>mx=c) (aa:match V with | some w=>w= .int .i64 hi | none=>hi=l∧K=none) (h3:match U with | some w=>w= .int .i64 lo | none=>lo=0) (hm:mx≤c) (hh:hi≤mx) (ab:lo≤hi)
  (k:Q (.slice (if mx=lo then a else a.map (·.add (lo*O))) (hi - lo) (mx - lo)) s):lp P (Instr.slice t (.slice a l c) U V K) s Q X:=by
 unfold Instr.slice;refine Ah _ _ (BM ht ?_);have hb:=Q5 (P:=P) (s:=s) (X:=X) Z aa h3 hm hh ab;refine Ah _ _ (BS _ hb ?_ (fun _ _ h=>h));rintro r s' ⟨rfl,rfl⟩;exact Ah _ _ (Da Y k)
theorem Yl.slice{ρ:Operand→Value}{a:Option Addr}{l c O lo hi mx:Nat}{olo ohi omx:Option Operand}(ht:P.underlying t=some (.slice e))(U:A0 P e=some O)(V:ρ x= .slice a l c)
  (Y:match omx with | some w=>ρ w= .int .i64 mx | none=>mx=c) (K:match ohi with | some w=>ρ w= .int .i64 hi | none=>hi=l∧omx=none) (h3:match olo with | some w=>ρ w= .int .i64 lo | none=>lo=0) (hm:mx≤c) (hh:hi≤mx) (Z:lo≤hi):
  Yl P ⟨d,.slice t x olo ohi omx,ty,p,af,g⟩ ρ s (.slice (if mx=lo then a else a.map (·.add (lo*O))) (hi - lo) (mx - lo)):=
 Dl (sm:=Instr.sliceAt t (ρ x) (olo.map ρ) (ohi.map ρ) (omx.map ρ)) rfl (by
  rw [V];unfold Instr.sliceAt
  refine Ah _ _ (BM ht ?_)
  refine Sq ht U (mx:=mx) (hi:=hi) (lo:=lo) ?_ ?_ ?_ hm hh Z ⟨rfl,rfl⟩
  ·cases omx <;> exact Y
  ·cases ohi with
   | none=>exact⟨K.1,by rw [K.2];rfl⟩
   | some w=>exact K
  ·cases olo <;> exact h3)
def EM(s:St)(v:Value)(K:Nat)(xs:List Value):Prop:=
 match v with
 | .slice (some a) l c=>(a.spot=none∨l=0)∧xs.length=l*K∧l≤c∧∀j w,xs[j]? =some w→s.cell? ⟨a.block,a.off+j,none⟩=some w
 | .slice none l _=>l=0∧xs= []
 | _=>False
theorem AS{a:Addr}(h:a.spot=none)(j:Nat):a.add j=⟨a.block,a.off+j,none⟩:=by
 unfold Addr.add;obtain⟨b,o,sp⟩:=a;simp only at h;subst h;split
 ·rename_i e;subst e;rfl
 ·rfl
theorem GW{V l:Nat}{xs:List Value}{Q:Array Value→St→Prop}{X:Halt→St→Prop}(Y:∃a c,v= .slice a l c)(h:EM s v V xs)(k:Q xs.toArray s):lp P (Builtin.firstCells V l v) s Q X:=by
 obtain⟨a,c,rfl⟩:=Y;cases a with
 | none=>
  obtain⟨K,rfl⟩:=h;exact k
 | some a=>
  obtain⟨K,O,h3,Z⟩:=h;refine ME O.symm (fun j w U=>?_) k;rcases K with K | K
  ·rw [AS K];exact Z j w U
  ·rw [K,Nat.zero_mul] at O;rw [List.eq_nil_of_length_eq_zero O] at U;cases U
theorem Ri(nl:Nat):∀(r c:Nat),Builtin.growBy nl r c≤max c (2*nl+768):=by
 intro r
 induction r with
 | zero=>intro c;simp [Builtin.growBy];omega
 | succ r K=>
  intro c;simp only [Builtin.growBy];split
  ·omega
  ·rename_i h;have:=K (c+(c+768) / 4);omega
theorem MR{need old:Nat}(h:old<need):Builtin.nextslicecap need old≤2*need+768:=by
 unfold Builtin.nextslicecap;split
 ·omega
 ·split
  ·omega
  ·have:=Ri need 4 old;omega
theorem MA(z:Array Value)(m:Nat):(Builtin.zeroCells z m).size=m*z.size:=by simp [Builtin.zeroCells]
def Kk(B:List (Nat×Obj))(pl:Nat)(e:TypeId)(K:Nat)(a:Option Addr)(l c:Nat)(xs:List Value):Prop:=
 (a=none∧l=0∧c=0∧xs= [])∨∃O f,a=some ⟨O,0,none⟩∧B[pl]? =some (O,.cells f e (0,0))∧f.size=c*K∧l≤c∧xs=f.toList.take (l*K)
theorem MF(c:Array Value)(off:Nat)(vs:List Value)(h:off+vs.length≤c.size):(AJ c off vs).toList.take (off+vs.length)=c.toList.take off++vs:=by
 induction vs generalizing c off with
 | nil=>simp [AJ]
 | cons v vs O=>
  simp only [AJ,List.length_cons] at*;have:=O (c.setIfInBounds off v) (off+1) (by simp;omega);rw [show off+(vs.length+1)=off+1+vs.length from by omega,this];have K:off<c.toList.length:=by simp;omega
  rw [Array.toList_setIfInBounds,List.take_add_one];have h3:(c.toList.set off v)[off]? =some v:=by simp at K;simp [K]
  rw [h3];simp [List.take_set_of_le]
theorem Ll{ats:Array TypeId}{a:Option Addr}{l c K Y m cx:Nat}{ax:Option Addr}{xs ys:List Value}{z:Value}{Q:Value→St→Prop}{X:Halt→St→Prop}{pl:Nat}
  (ar:ats[0]? =some t) {t1 au:TypeId} (av:ats[1]? =some t1) (aw:P.underlying t1=some (.slice au)) (ht:P.underlying t=some (.slice e)) (ay:A0 P e=some K) (hb:C6 P e=some Y) (az:zeroOf P e=some z) (aA:z.cells.size=K)
  (hN:Nd E H B) (hs:Kk B pl e K a l c xs)
  (ae:EM (mk E H B) (.slice ax m cx) K ys) (aB:∀w∈ys,Ba w=true) (aM:0<Y) (aN:l+m≤2 ^ 40) (aC:Y≤64)
  (aD:∀O f U,a=some ⟨O,0,none⟩→B[pl]? =some (O,.cells f e (0,0))→U=AJ f (l*K) ys→l+m≤c→U.size=c*K→U.toList.take ((l+m)*K)=xs++ys→Nd E H (B.set pl (O,.cells U e (0,0)))→Q (.slice a (l+m) c) (mk E H (B.set pl (O,.cells U e (0,0)))))
  (aE:a=none→m=0→Q (.slice none 0 0) (mk E H B))
  (aF:∀r U Z,l+m≤Z→U.size=Z*K→U.toList.take ((l+m)*K)=xs++ys→Nd E H (B++ [(r,.cells U e (0,0))])→Q (.slice (some ⟨r,0,none⟩) (l+m) Z) (mk E H (B++ [(r,.cells U e (0,0))]))):
  lp P (Builtin.append_ ats ty #[.slice a l c,.slice ax m cx]) (mk E H B) Q X:=by
 unfold Builtin.append_;simp only [ar,av,List.getElem?_toArray,List.getElem?_cons_zero,List.getElem?_cons_succ];refine Ah _ _ (BM ht ?_);refine Ah _ _ (Da ay ?_);refine Ah _ _ (BM aw ?_);simp only [Fa,Bool.false_eq_true,if_false,Builtin.lenOf,Bool.not_false,if_true];have aa:ys.length=m*K:=by
  cases ax with
  | none=>obtain⟨ah,ai⟩:=ae;subst ah ai;simp
  | some ad=>exact ae.2.1
 have aj:∃(aG:Option Addr) (Z:Nat),EM (mk E H B) (.slice a l c) K xs∧aG=a∧Z=c:=by
  refine⟨a,c,?_,rfl,rfl⟩;rcases hs with⟨rfl,rfl,rfl,rfl⟩ | ⟨O,f,rfl,ab,V,ac,rfl⟩
  ·exact⟨rfl,rfl⟩
  ·have hle:l*K≤f.size:=by rw [V];exact Nat.mul_le_mul_right _ ac
   refine⟨.inl rfl,by simp [Nat.min_eq_left hle],ac,fun j w ag=>?_⟩;refine NS hN ab ?_;simp only [Nat.zero_add];rw [List.getElem?_take] at ag;split at ag
   ·simpa using ag
   ·cases ag
 obtain⟨_,_,aj,_,_⟩:=aj;have ak:xs.length=l*K:=by
  rcases hs with⟨rfl,rfl,rfl,rfl⟩ | ⟨O,f,rfl,ab,V,ac,rfl⟩
  ·simp
  ·have hle:l*K≤f.size:=by rw [V];exact Nat.mul_le_mul_right _ ac
   simp [Nat.min_eq_left hle]
 split
 ·rename_i ap;refine Ah _ _ (GW ⟨ax,cx,rfl⟩ ae ?_);rcases hs with⟨rfl,rfl,rfl,rfl⟩ | ⟨O,f,rfl,ab,V,ac,rfl⟩
  ·obtain rfl:m=0:=by omega
   simp only;exact aE rfl rfl
  ·simp only;have hle:l*K+ys.length≤f.size:=by rw [aa,V,← Nat.add_mul];exact Nat.mul_le_mul_right _ ap
   have aH:(Addr.add ⟨O,0,none⟩ (l*K))=⟨O,l*K,none⟩:=by rw [AS rfl];simp
   rw [aH];refine Ah _ _ (KX (pl:=pl) ys.toArray.toList 0 f B (by simpa using aB) hN ab (by simpa using hle) (.inl rfl) fun B' aq al=>?_);simp only [Nat.add_zero] at aq;subst aq;refine aD O f _ rfl ab rfl ap (by rw [Lf,V]) ?_ al;have:=MF f (l*K) ys hle;rw [aa,← Nat.add_mul] at this;exact this
 ·rename_i aO;have ah:¬(((l+m:Nat):Int)>IntKind.i64.max∧(False∨Y=0)):=by rintro⟨_,h | h⟩ <;> omega
  have ai:¬(Builtin.nextslicecap (l+m) c*Y>2 ^ 48):=by
   have:=MR (need:=l+m) (old:=c) (by omega);have h3:Builtin.nextslicecap (l+m) c*Y≤(2*(l+m)+768)*64:=Nat.mul_le_mul this aC;omega
  obtain⟨inf,am,an⟩:=I1 hb;refine Ah _ _ (F4 am ?_);rw [an,if_neg ah];refine Ah _ _ (F4 am ?_);rw [an,if_neg ai];refine Ah _ _ ?_;simp only [choose,lp,Question.forced,Bool.false_eq_true,if_false];refine⟨rfl,fun aI=>?_⟩;generalize aJ:(Question.appendCap (l+m) c e).cut aI=ao;have aK:l+m≤ao:=by rw [← aJ];simp [Question.cut]
  refine Ah _ _ (F4 am ?_);rw [an];have aL:∀{α:Type} {f:Unit→Sem α} {Q:α→St→Prop},lp P (f ()) (mk E H B) Q X→lp P (askRoom (ao*Y)>>=f) (mk E H B) Q X:=by
   intro α f Q V;refine Ah _ _ ?_;unfold askRoom;split
   ·exact⟨.inl ⟨rfl,rfl⟩,V⟩
   ·exact V
  refine aL ?_;refine Ah _ _ (GW ⟨a,c,rfl⟩ aj ?_);refine Ah _ _ (GW ⟨ax,cx,rfl⟩ ae ?_);refine Ah _ _ (D6 az ?_);refine Ah _ _ (Fc hN fun r al=>?_);refine aF r _ ao aK ?_ ?_ al
  ·simp only [Array.size_append,List.size_toArray,MA,aA,ak,aa];rw [← Nat.add_mul,← Nat.add_mul];congr 1;omega
  ·simp only [Array.toList_append];rw [List.take_append_of_le_length (by simp [ak,aa,Nat.add_mul])];rw [List.take_of_length_le (by simp [ak,aa,Nat.add_mul])]
end
end Pal
namespace Pal
open Go Go.Conc
theorem Kn{P:Program}{α:Type}(x:Sem α):∀{s:St} {Q:α→St→Prop} {X:Halt→St→Prop},lp P x s Q X→lp P x s (fun a s'=>Q a s'∧s'.E=s.E∧s'.q=s.q) X:=by
 induction x with
 | pure a=>intro s Q X h;exact⟨h,rfl,rfl⟩
 | load m a k K=>intro s Q X h;obtain⟨O,v,U,h3⟩:=h;exact⟨O,v,U,K _ h3⟩
 | store m a v k K=>intro s Q X h;obtain⟨O,U,o,h3,Y,Z,h6⟩:=h;exact⟨O,U,o,h3,Y,Z,K h6⟩
 | new o k K=>intro s Q X h;exact⟨h.1,fun r O U=>K _ (h.2 r O U)⟩
 | shape r k K=>intro s Q X h;obtain⟨o,O,U⟩:=h;exact⟨o,O,K _ U⟩
 | freeze a n k K=>intro s Q X h;exact h
 | frozen a k K=>intro s Q X h;obtain⟨o,O,U⟩:=h;exact⟨o,O,K _ U⟩
 | getObj r k K=>intro s Q X h;obtain⟨o,O,U,h3⟩:=h;exact⟨o,O,U,K _ h3⟩
 | setObj r o k K=>intro s Q X h;obtain⟨O,U,h3⟩:=h;exact⟨O,U,K h3⟩
 | choose q k K=>
  intro s Q X h;simp only [lp] at h ⊢;split
  ·rename_i V;rw [if_pos V] at h;exact K _ h
  ·rename_i V;rw [if_neg V] at h;exact⟨h.1,fun t=>K _ (h.2 t)⟩
 | sys c k K=>intro s Q X h;exact h
 | program k K=>intro s Q X h;exact K _ h
 | mark m k K=>intro s Q X h;exact⟨h.1,K h.2⟩
 | halt h=>intro s Q X h;exact h
def AV(D:Nat→Bool)(s:St):St:=⟨fun b=>if D b then s.get b else s.E b,fun b=>if D b then none else s.H b,s.q⟩
def Bu(D:Nat→Bool)(s s':St):St:=⟨fun b=>if D b then s.E b else s'.E b,fun b=>if D b then s.H b else s'.H b,s'.q⟩
theorem HP(D:Nat→Bool)(s:St):Bu D s (AV D s)=s:=by
 obtain⟨E,H,q⟩:=s;unfold Bu AV;congr 1
 ·funext b;by_cases h:D b <;> simp [h]
 ·funext b;by_cases h:D b <;> simp [h]
theorem RY{D:Nat→Bool}{s:St}{w:World}(f:Fits s w):Fits (AV D s) w where
 e b o h:=by
  by_cases K:D b
  ·simp [AV,K] at h;exact f.get h
  ·simp [AV,K] at h;exact f.e b o h
 h b o h:=by
  by_cases K:D b
  ·simp [AV,K] at h
  ·simp [AV,K] at h;exact f.h b o h
 d b h:=by
  by_cases K:D b
  ·simp [AV,K]
  ·simp [AV,K] at h ⊢;exact f.d b h
def Co{P:Program}(J:Judge P)(f:FuncId)(args:Array Value)(s:St)(R:Value→St→Prop):Prop:=
 ∀(Q:Goroutine→St→Prop) (c:Frame) (cs:List Frame),(∀v s',R v s'→J.ok Q (G (c.finish v) cs) s')→J.ok Q (G (Frame.enter P f args .normal) (c::cs)) s
theorem Co.moq{P:Program}{J:Judge P}{f:FuncId}{args:Array Value}{s:St}{R K:Value→St→Prop}(h:Co J f args s R)(O:∀v s',R v s'→K v s'):Co J f args s K:=
 fun Q c cs U=>h Q c cs fun v s' V=>U v s' (O v s' V)
section
variable {P:Program}{J:Judge P}{Q:Goroutine→St→Prop}{b:Frame}{n:Nat}{L L':Env}{ds:List Deferred}{k:List Item}{cs:List Frame}{s s':St}
theorem Judge.OH(D:Nat→Bool){T:Array Value}{ops:Array Oper}{i:Nat}{rest:List Nat}{o:Oper}(V:ops[i]? =some o)(hw:Region.wanted o (yielded ops T)=true)(aq:b.kind≠ .early)
  (ar:∀c,o.op≠ .defer c) (au:s.q=false)
  (h:lp P (execOp (AY T) o) (AV D s) (fun nx s'=>upon J Q b T ds ops i rest k cs o.dst nx (Bu D s s')) (fun _ _=>False)):
  J.ok Q (G (fr b T ds (.inRegion ops (i::rest)::k)) cs) s:=by
 refine J.step ⟨rfl,fun w f=>?_,fun e=>by subst e;cases au⟩;have Y:((fr b T ds (.inRegion ops (i::rest)::k)).kind==CallKind.early)=false:=by simpa [fr] using aq
 have av:stepG P J.main (G (fr b T ds (.inRegion ops (i::rest)::k)) cs) w=stepG.apply P true (fr b T ds (.inRegion ops (i::rest)::k)) cs none (execOp (AY T) o) w:=by
  rw [stepG_op V hw];split
  ·rename_i l c aD aw;exact absurd aw (ar c)
  ·rfl
 obtain⟨Z,ae,ag,h3,K⟩:=I9 _ (Kn _ h) (RY (D:=D) f);have ah:=LA (P:=P) (fn:=b.fn) h3;have al:=fun v=>D7 (b:=b) (ds:=ds) (k:=k) T ops i rest v o V;have key:∀w',Fits Z w'→Fr (AV D s) w Z w'→Z.E=(AV D s).E→Fits (Bu D s Z) w'∧Fr s w (Bu D s Z) w':=by
  intro w' ai O ay;have am:∀b,D b=true→b<w.heap.size→w'.heap[b]? =w.heap[b]? :=fun b hb aj=>O.keep b aj (by simp [AV,hb]);have an:∀b o,(s.H b=some o∨s.E b=some o)→b<w.heap.size:=fun b o V=>by
   have:=V.elim (f.h b o) (f.e b o);rcases Nat.lt_or_ge b w.heap.size with ak | ak
   ·exact ak
   ·simp [Array.getElem?_eq_none ak] at this
  refine⟨⟨fun b o hb=>?_,fun b o hb=>?_,fun b hb=>?_⟩,⟨O.size,fun b aj hb=>?_,fun b hb=>?_,fun b o hb=>?_,fun b hb=>?_,O.tape,O.os,O.output⟩⟩
  ·by_cases hD:D b
   ·simp [Bu,hD] at hb;rw [am b hD (an b o (.inr hb))];exact f.e b o hb
   ·simp [Bu,hD] at hb;exact ai.e b o hb
  ·by_cases hD:D b
   ·simp [Bu,hD] at hb;rw [am b hD (an b o (.inl hb))];exact f.h b o hb
   ·simp [Bu,hD] at hb;exact ai.h b o hb
  ·by_cases hD:D b
   ·simp [Bu,hD] at hb ⊢;exact f.d b hb
   ·simp [Bu,hD] at hb ⊢;exact ai.d b hb
  ·exact O.keep b aj (by by_cases hD:D b <;> simp [AV,hD,hb])
  ·by_cases hD:D b
   ·simp [Bu,hD] at hb;exact .inl hb
   ·simp [Bu,hD] at hb;rcases O.own b hb with q | q
    ·left;simpa [AV,hD] using q
    ·exact .inr q
  ·by_cases hD:D b
   ·simp [Bu,hD];exact hb
   ·simp only [Bu,hD,Bool.false_eq_true,if_false];rw [ay];simp [AV,hD,hb]
  ·by_cases hD:D b
   ·simp [Bu,hD] at hb;exact .inl hb
   ·simp [Bu,hD] at hb;rcases O.CG b hb with q | q | q
    ·left;simpa [AV,hD] using q
    ·right;left;simpa [AV,hD] using q
    ·exact .inr (.inr q)
 have az:∀w',(∀e∈seen P b.fn ((execOp (AY T) o).events P w #[]),Ev (AV D s) w w' e)→∀e∈seen P b.fn ((execOp (AY T) o).events P w #[]),Ev s w w' e:=by
  intro w' he e hm;have:=he e hm;have ao:∀{b wr},DX (AV D s) w w' b wr→DX s w w' b wr:=by
   intro b wr ht;refine⟨ht.1,?_⟩;rcases ht.2 with q | q | ⟨q,ap⟩
   ·left;by_cases hD:D b <;> simp [AV,hD] at q;exact q
   ·exact .inr (.inl q)
   ·by_cases hD:D b
    ·simp [AV,hD,St.get] at q;by_cases ac:s.E b=none
     ·left;intro aA;rw [ac,aA] at q;exact q rfl
     ·exact .inr (.inr ⟨ac,ap⟩)
    ·simp [AV,hD] at q;exact .inr (.inr ⟨q,ap⟩)
  unfold Ev at this ⊢;split <;> rename_i aB <;> simp only [aB] at this
  ·exact⟨this.1,ao this.2⟩
  ·exact⟨this.1,ao this.2⟩
  ·trivial
  ·trivial
 rw [av];cases U:(execOp (AY T) o).run P w with
 | ok nx w'=>
  rw [U] at ae ag K ah;simp only [GM] at ae ag ah;obtain⟨K,ac,_⟩:=K;obtain⟨k1,aa⟩:=key w' ae ag ac;have ab:=az w' ah;cases nx with
  | value v=>exact⟨_,_,w',seen P b.fn ((execOp (AY T) o).events P w #[])++ #[],by simp [stepG.apply,U,Y,GStep.after,G,al,De],K,k1,aa,by simpa using ab⟩
  | skip=>exact⟨_,_,w',seen P b.fn ((execOp (AY T) o).events P w #[])++ #[],by simp [stepG.apply,U,Y,GStep.after,G,al,De],K,k1,aa,by simpa using ab⟩
  | enter g args=>exact⟨_,_,w',seen P b.fn ((execOp (AY T) o).events P w #[])++ #[],by simp [stepG.apply,U,Y,GStep.after,G,De,EH],K,k1,aa,by simpa using ab⟩
  | round l g aE as aF=>exact⟨_,_,w',seen P b.fn ((execOp (AY T) o).events P w #[])++ #[],by simp [stepG.apply,U,Y,GStep.after,G,De,EH],K,k1,aa,by simpa using ab⟩
  | defer d=>
   have aC:=D7 (b:=b) (ds:=d::ds) (k:=k) T ops i rest undef o V;exact⟨_,_,w',seen P b.fn ((execOp (AY T) o).events P w #[])++ #[],by
    rw [← aC];simp [stepG.apply,U,Y,GStep.after,G,De,EH];rfl,K,k1,aa,by simpa using ab⟩
  | _=>exact K.elim
 | halt x w'=>rw [U] at K;exact K.elim
end
end Pal
namespace Pal
open Go Go.Conc
def L3(m:Nat)(listed:Array Bool):Bool:=(List.range m).all fun i=>listed.getD i false
def AF(listed:Array Bool)(i:Nat):Array Bool:=listed.setIfInBounds i true
section
variable {P:Program}(J:Judge P)(Q:Goroutine→St→Prop)(b:Frame)(ds:List Deferred)(ops:Array Oper)(k:List Item)(cs:List Frame)(m:Nat)(D:Nat→Bool)
def JA:Nat→Array Bool→Array Value→St→Prop
 | 0,listed,T,s=>Region.ready .any ops listed= []∧J.ok Q (G (fr b T ds (.inRegion ops []::k)) cs) s
 | fuel+1,listed,T,s=>
  (L3 m listed=true∧∀t,J.ok Q (G (fr b T ds (.inRegion ops (Region.linearise.go .any ops (fuel+1) t listed [])::k)) cs) s)∨
  (Region.ready .any ops listed≠ []∧s.q=false∧∀i∈Region.ready .any ops listed,∀o,ops[i]? =some o→(∀c,o.op≠ .defer c)∧
   (Region.wanted o (yielded ops T)=false→JA fuel (AF listed i) (Bv T o.dst undef) s)∧
   (Region.wanted o (yielded ops T)=true→lp P (execOp (AY T) o) (AV D s) (fun nx s'=>match nx with
    | .value v=>JA fuel (AF listed i) (Bv T o.dst v) (Bu D s s')
    | .skip=>JA fuel (AF listed i) (Bv T o.dst undef) (Bu D s s')
    | .enter f args=>∃R,Co J f args (Bu D s s') R∧∀v K,R v K→K.q=false∧(∀x o,(AV D s).E x=some o→(AV D K).E x=some o)∧JA fuel (AF listed i) (Bv T o.dst v) K
    | _=>False) (fun _ _=>False)))
variable {J Q b ds ops k cs m D}
theorem R0(Y:b.kind≠ .early):∀(fuel t:Nat) (listed:Array Bool) (T:Array Value) (s:St),JA J Q b ds ops k cs m D fuel listed T s→
  J.ok Q (G (fr b T ds (.inRegion ops (Region.linearise.go .any ops fuel t listed [])::k)) cs) s:=by
 intro fuel
 induction fuel with
 | zero=>intro t listed T s h;simpa [Region.linearise.go] using h.2
 | succ fuel K=>
  intro t listed T s h;rcases h with⟨_,h⟩ | ⟨Z,aa,h⟩
  ·exact h t
  ·obtain⟨i,hi⟩:∃i,(Region.ready .any ops listed)[t % (Region.ready .any ops listed).length]? =some i:=by
    have:0<(Region.ready .any ops listed).length:=List.length_pos_iff.2 Z;exact⟨_,List.getElem?_eq_getElem (Nat.mod_lt _ this)⟩
   have V:=List.mem_of_getElem? hi;have hgo:Region.linearise.go .any ops (fuel+1) t listed []=i::Region.linearise.go .any ops fuel (t / (Region.ready .any ops listed).length) (AF listed i) []:=by
    simp only [Region.linearise.go];change (match(Region.ready .any ops listed)[t % (Region.ready .any ops listed).length]? with
     | some i=>Region.linearise.go .any ops fuel (t / (Region.ready .any ops listed).length) (listed.setIfInBounds i true) [i]
     | none=> [].reverse)=_
    rw [hi];simp only;rw [linearise_go_acc];rfl
   rw [hgo];obtain⟨_,o,O,_⟩:=mem_ready.1 V;obtain⟨ab,ac,ae⟩:=h i V o O;cases hw:Region.wanted o (yielded ops T) with
   | false=>exact Judge.unwanted O hw (K _ _ _ _ (ac hw))
   | true=>
    refine Judge.OH D O hw Y ab aa (BS _ (ae hw) ?_ (fun _ _ h=>h));intro nx s' U;cases nx with
    | value v=>exact K _ _ _ _ U
    | skip=>exact K _ _ _ _ U
    | enter f args=>
     obtain⟨R,ag,ah⟩:=U;refine ag Q _ cs fun v ai aj=>?_;rw [D7 _ _ _ _ _ _ O];exact K _ _ _ _ (ah v ai aj).2.2
    | _=>exact U.elim
theorem Te{T:Array Value}{d:Option Tmp}{v:Value}{x:Operand}(h:∀t,d=some t→x≠ .tmp t):AY (Bv T d v) x=AY T x:=by
 cases d with
 | none=>rfl
 | some t=>
  cases x with
  | tmp u=>
   have K:t≠u:=fun e=>h t rfl (e▸rfl);simp only [Bv,AY,Array.getD_eq_getD_getElem?,Array.getElem?_setIfInBounds_ne K]
  | _=>rfl
theorem EE{T:Array Value}{d:Option Tmp}{v:Value}{o:Oper}(hs:∀cs b,o.op≠ .select cs b)(h:∀t,d=some t→t ∉ o.looksAt ops):
  execOp (AY (Bv T d v)) o=execOp (AY T) o∧Region.wanted o (yielded ops (Bv T d v))=Region.wanted o (yielded ops T):=by
 refine⟨execOp_congr o hs fun x K=>Te fun t ht O=>h t ht ?_,?_⟩
 ·subst O;exact List.mem_append_left _ (List.mem_filterMap.2 ⟨.tmp t,by simpa using K,rfl⟩)
 ·have:=wanted_put (ops:=ops) o (⟨T,[]⟩:Act) d v h
  rwa [act_put'] at this
 where
  act_put' {T : Array Value} {d : Option Tmp} {v : Value} : (⟨T, []⟩ : Act).put d v = ⟨Bv T d v, []⟩ := by cases d <;> rfl
theorem FC{T:Array Value}{d e:Option Tmp}{v u:Value}(h:∀t,d=some t→e≠some t):Bv (Bv T d v) e u=Bv (Bv T e u) d v:=by
 cases d with
 | none=>rfl
 | some t=>
  cases e with
  | none=>rfl
  | some K=>
   have O:t≠K:=fun q=>h t rfl (q▸rfl);simp [Bv,Array.setIfInBounds_comm _ _ O]
theorem MK{D:Nat→Bool}{s s':St}(K:s'.E=(AV D s).E):(AV D (Bu D s s')).E=(AV D s).E:=by
 funext x;by_cases h:D x
 ·simp [AV,Bu,h,St.get]
 ·have:=congrFun K x;simp [AV,h] at this;simp [AV,Bu,h,this]
def FL(ops:Array Oper)(listed:Array Bool)(i:Nat)(oi:Oper):Bool:=
 (List.range ops.size).all fun j=>j==i || listed.getD j true || match ops[j]? with
  | some K=>(K.after.any fun e=>Region.binds .any e&&e.on==i) || oi.apart ops K
  | none=>true
def waits(ops:Array Oper):Nat→Nat→Nat→Bool
 | 0,_,_=>false
 | f+1,j,i=>match ops[j]? with
  | some K=>K.after.any fun e=>Region.binds .any e&&(e.on==i || waits ops f e.on i)
  | none=>true
def Cv(ops:Array Oper)(m:Nat):Bool:=
 (List.range ops.size).all fun j=>decide (j<m) || (List.range m).all fun i=>waits ops ops.size j i
def EK(ops:Array Oper)(listed:Array Bool):Bool:=
 (List.range ops.size).all fun j=> !listed.getD j false || match ops[j]? with
  | some K=>K.after.all fun e=> !Region.binds .any e || listed.getD e.on false
  | none=>true
theorem Lb{listed:Array Bool}(h:EK ops listed=true){j:Nat}{K:Oper}(O:ops[j]? =some K)(U:listed.getD j false=true):∀e∈K.after,Region.binds .any e=true→listed.getD e.on false=true:=by
 intro e he hb;have:=List.all_eq_true.1 h j (List.mem_range.2 (Array.getElem?_eq_some_iff.1 O).1);rw [U,O] at this;simp only [Bool.not_true,Bool.false_or] at this;have:=Array.all_eq_true'.1 this e he;rw [hb] at this;simpa using this
theorem MH{listed:Array Bool}(Y:EK ops listed=true){i:Nat}:∀(f j:Nat) (O:Oper),ops[j]? =some O→(∀e∈O.after,Region.binds .any e=true→listed.getD e.on false=true)→waits ops f j i=true→listed.getD i false=true∨∃x,ops[x]? =none∧listed.getD x false=true:=by
 intro f
 induction f with
 | zero=>intro j O _ _ h;cases h
 | succ f Z=>
  intro j O aa ab h;simp only [waits,aa] at h;obtain⟨e,he,K⟩:=Array.any_eq_true'.1 h;simp only [Bool.and_eq_true,Bool.or_eq_true,beq_iff_eq] at K;obtain⟨hb,K⟩:=K;have U:=ab e he hb;rcases K with rfl | K
  ·exact .inl U
  ·cases V:ops[e.on]? with
   | none=>exact .inr ⟨_,V,U⟩
   | some o=>exact Z e.on o V (fun ac ae ag=>Lb Y V U ac ae ag) K
theorem JA.take{i:Nat}{oi:Oper}{w:Bool}{v:Value}(hi:ops[i]? =some oi)(aS:i<m)(aT:Cv ops m=true)(aU:Region.noSelect ops=true)(aV:∀c,oi.op≠ .defer c):
  ∀(fuel:Nat) (listed:Array Bool) (T:Array Value) (s:St),FL ops listed i oi=true→EK ops listed=true→listed.size=ops.size→i∈Region.ready .any ops listed→s.q=false→Region.wanted oi (yielded ops T)=w→
   (w=true→∀s',s'.q=false→(∀x o,(AV D s).E x=some o→s'.E x=some o)→Yl P oi (AY T) s' v)→
   JA J Q b ds ops k cs m D fuel (AF listed i) (Bv T oi.dst (if w then v else undef)) s→JA J Q b ds ops k cs m D (fuel+1) listed T s:=by
 have ag:∀(j:Nat) (Y:Oper),ops[j]? =some Y→∀cs b,Y.op≠Op.select cs b:=fun j Y h cs b=>Region.noSelect_spec aU j Y cs b h;intro fuel
 induction fuel with
 | zero=>?_
 | succ fuel al=>?_
 all_goals
  intro listed T s aG aH ah am an hw ai h;refine .inr ⟨fun e=>(by rw [e] at am;cases am),an,fun j aI Y O=>?_⟩;by_cases ae:j=i
  ·subst ae;obtain rfl:Y=oi:=by rw [hi] at O;exact(Option.some.inj O).symm
   refine⟨aV,fun ay=>?_,fun az=>?_⟩
   ·rw [ay] at hw;subst hw;exact h
   ·rw [az] at hw;subst hw;refine BS _ (ai rfl (AV D s) an fun _ _ h=>h).out ?_ (fun _ _ h=>h);rintro nx s' ⟨rfl,rfl⟩;rw [HP];exact h
  ·
   have aJ:j∈Region.ready .any ops (AF listed i):=ready_mono aI ae;obtain⟨Z,U,aK,aA⟩:=mem_ready.1 aI;obtain rfl:U=Y:=by rw [O] at aK;exact(Option.some.inj aK).symm
   have aB:=(mem_ready.1 am).1;have aW:(U.after.any fun e=>Region.binds .any e&&e.on==i)=false:=by
    rw [Array.any_eq_false];intro e he K;simp only [Bool.and_eq_true,beq_iff_eq] at K;have:=aA _ (Array.getElem_mem he) K.1;rw [K.2] at this;have V:listed.getD i true=listed.getD i false∨listed.size≤i:=by
     rcases Nat.lt_or_ge i listed.size with q | q
     ·left;simp [Array.getD_eq_getD_getElem?,q]
     ·exact .inr q
    rcases V with V | V
    ·rw [aB,this] at V;cases V
    ·rw [Array.getD_eq_getD_getElem?,Array.getElem?_eq_none V] at this;simp at this
   have aX:oi.apart ops U=true:=by
    have aj:j<ops.size:=(Array.getElem?_eq_some_iff.1 O).1;have:=List.all_eq_true.1 aG j (List.mem_range.2 aj);simp only [Bool.or_eq_true,beq_iff_eq] at this;rcases this with(q | q) | q
    ·exact absurd q ae
    ·rw [Z] at q;cases q
    ·rw [O] at q;simp only [Bool.or_eq_true] at q;rw [aW] at q;exact q.resolve_left (by simp)
   obtain⟨a1,ao,ap⟩:=Oper.apart_spec aX;obtain⟨p1,p2⟩:=EE (ops:=ops) (T:=T) (v:=if w then v else undef) (ag j U O) a1
   first
    | exact absurd aJ (by rw [h.1];simp)
    | (
     rcases h with⟨aY,_⟩ | ⟨bf,_,h⟩
     ·
      exfalso
      have aZ:¬j<m:=by
       intro aj
       have:=List.all_eq_true.1 aY j (List.mem_range.2 aj)
       have aa:(AF listed i).getD j false=listed.getD j false:=getD_set_ne false (Ne.symm ae)
       rw [aa] at this
       have V:listed.getD j true=true:=by
        rcases Nat.lt_or_ge j listed.size with q | q
        ·simp [Array.getD_eq_getD_getElem?,q] at this ⊢;exact this
        ·simp [Array.getD_eq_getD_getElem?,Array.getElem?_eq_none q] at this
       rw [Z] at V;cases V
      have aj:j<ops.size:=(Array.getElem?_eq_some_iff.1 O).1
      have:=List.all_eq_true.1 aT j (List.mem_range.2 aj)
      simp only [Bool.or_eq_true,decide_eq_true_eq] at this
      have:=List.all_eq_true.1 (this.resolve_left aZ) i (List.mem_range.2 aS)
      rcases MH aH _ j U O (fun e he hb=>aA e he hb) this with q | ⟨x,q1,q2⟩
      ·have a0:i<listed.size:=by rw [ah];exact(Array.getElem?_eq_some_iff.1 hi).1
       simp [Array.getD_eq_getD_getElem?,a0] at q aB
       rw [aB] at q;cases q
      ·have:¬x<listed.size:=by rw [ah];intro K;simp [K] at q1
       simp [Array.getD_eq_getD_getElem?,this] at q2
     ·obtain⟨a2,ay,az⟩:=h j aJ U O
      have aq:AF (AF listed i) j=AF (AF listed j) i:=by
       unfold AF;exact Array.setIfInBounds_comm _ _ (Ne.symm ae)
      have ar:i∈Region.ready .any ops (AF listed j):=ready_mono am (Ne.symm ae)
      have au:FL ops (AF listed j) i oi=true:=by
       refine List.all_eq_true.2 fun x K=>?_
       have:=List.all_eq_true.1 aG x K
       simp only [Bool.or_eq_true,beq_iff_eq] at this ⊢
       rcases this with(q | q) | q
       ·exact .inl (.inl q)
       ·left;right
        by_cases e:j=x
        ·subst e;rw [Z] at q;cases q
        ·rw [AF,getD_set_ne true e];exact q
       ·exact .inr q
      have av:(AF listed j).size=ops.size:=by unfold AF;simpa using ah
      have aw:EK ops (AF listed j)=true:=by
       refine List.all_eq_true.2 fun x K=>?_
       cases aC:ops[x]? with
       | none=>simp
       | some a3=>
        simp only [Bool.or_eq_true,Bool.not_eq_true']
        by_cases e:j=x
        ·subst e
         obtain rfl:a3=U:=by rw [O] at aC;exact(Option.some.inj aC).symm
         right
         refine Array.all_eq_true'.2 fun e he=>?_
         cases hb:Region.binds .any e with
         | false=>simp
         | true=>
          have:=aA e he hb
          by_cases aa:j=e.on
          ·rw [← aa] at this
           have aD:j<listed.size:=by rw [ah];exact(Array.getElem?_eq_some_iff.1 O).1
           simp [Array.getD_eq_getD_getElem?,aD] at this Z
           rw [Z] at this;cases this
          ·rw [AF,getD_set_ne false aa];simpa using this
        ·cases aL:(AF listed j).getD x false with
         | false=>exact .inl rfl
         | true=>
          right
          have a5:listed.getD x false=true:=by rw [AF,getD_set_ne false e] at aL;exact aL
          refine Array.all_eq_true'.2 fun aE he=>?_
          cases hb:Region.binds .any aE with
          | false=>simp
          | true=>
           have:=Lb aH aC a5 aE he hb
           by_cases aa:j=aE.on
           ·rw [← aa] at this
            have aD:j<listed.size:=by rw [ah];exact(Array.getElem?_eq_some_iff.1 O).1
            simp [Array.getD_eq_getD_getElem?,aD] at this Z
            rw [Z] at this;cases this
           ·rw [AF,getD_set_ne false aa];simpa using this
      refine⟨a2,fun a6=>?_,fun a8=>?_⟩
      ·have:=ay (by rw [p2];exact a6)
       rw [aq,FC ao] at this
       obtain⟨q1,q2⟩:=EE (ops:=ops) (T:=T) (d:=U.dst) (v:=undef) (o:=oi) (ag i oi hi) ap
       exact al _ _ _ au aw av ar an (by rw [q2];exact hw) (fun ab s' a9 aF=>by unfold Yl;rw [q1];exact(ai ab s' a9 aF).out) this
      ·have aM:=Kn _ (az (by rw [p2];exact a8))
       rw [p1] at aM
       refine BS _ aM ?_ (fun _ _ h=>h)
       rintro nx s' ⟨K,aF,ba⟩
       have aN:=MK (D:=D) aF
       have aO:(Bu D s s').q=false:=by show s'.q=false;rw [ba];exact an
       cases nx with
       | value u=>
        simp only at K ⊢
        rw [aq,FC ao] at K
        obtain⟨q1,q2⟩:=EE (ops:=ops) (T:=T) (d:=U.dst) (v:=u) (o:=oi) (ag i oi hi) ap
        exact al _ _ _ au aw av ar aO (by rw [q2];exact hw) (fun ab s2 ak ac=>by unfold Yl;rw [q1];exact(ai ab s2 ak (by rw [aN] at ac;exact ac)).out) K
       | skip=>
        simp only at K ⊢
        rw [aq,FC ao] at K
        obtain⟨q1,q2⟩:=EE (ops:=ops) (T:=T) (d:=U.dst) (v:=undef) (o:=oi) (ag i oi hi) ap
        exact al _ _ _ au aw av ar aO (by rw [q2];exact hw) (fun ab s2 ak ac=>by unfold Yl;rw [q1];exact(ai ab s2 ak (by rw [aN] at ac;exact ac)).out) K
       | enter f args=>
        obtain⟨R,bb,bc⟩:=K
        refine⟨R,bb,fun u bd hu=>?_⟩
        obtain⟨aP,aQ,aR⟩:=bc u bd hu
        refine⟨aP,aQ,?_⟩
        rw [aq,FC ao] at aR
        obtain⟨q1,q2⟩:=EE (ops:=ops) (T:=T) (d:=U.dst) (v:=u) (o:=oi) (ag i oi hi) ap
        exact al _ _ _ au aw av ar aP (by rw [q2];exact hw) (fun ab s2 ak ac=>by unfold Yl;rw [q1];exact(ai ab s2 ak (fun x o K=>ac x o (aQ x o K))).out) aR
       | _=>exact K.elim)
end
end Pal
namespace Pal
open Go Go.Conc
section
variable {P:Program}(J:Judge P)(Q:Goroutine→St→Prop)(b:Frame)(n:Nat)(ds:List Deferred)(ops:Array Oper)(k:List Item)(cs:List Frame)(m:Nat)(D:Nat→Bool)
def JAL(fuel:Nat)(listed:Array Bool)(L:Env)(s:St):Prop:=∀T,Has n L T→JA J Q b ds ops k cs m D fuel listed T s
end
def CP:Nat→Bool:=fun _=>false
section
variable {P:Program}{J:Judge P}{Q:Goroutine→St→Prop}{b:Frame}{n:Nat}{ds:List Deferred}{ops:Array Oper}{k:List Item}{cs:List Frame}{m fuel:Nat}{D:Nat→Bool}{listed:Array Bool}{L:Env}{s:St}
theorem N8(m:Nat)(D:Nat→Bool){id:Nat}(K:s.q=false)(hm:P.follows .mixedOrders=true)(O:(b.kind != .early)=true)(h:JAL J Q b n ds ops k cs m D ops.size (Array.replicate ops.size false) L s):JL J Q b n L ds (.code (.region id ops true)::k) cs s:=
 Om K hm fun t T U=>R0 (by simpa using O) ops.size t _ T s (h T U)
theorem RO{i:Nat}{oi:Oper}{v:Value}(hi:ops[i]? =some oi)(U:decide (i<m)=true)(V:Cv ops m=true)(Y:Region.noSelect ops=true)(O:(!B5 oi.op)=true)(Z:FL ops listed i oi=true)(aa:EK ops listed=true)(ab:(listed.size==ops.size)=true)(ac:(Region.ready .any ops listed).contains i=true)(ae:s.q=false)
  (hw:Az L ops oi=some true) (ag:AQ n oi.dst=true) (ah:∀ρ,CN L ρ→∀s',s'.q=false→(∀x o,(AV D s).E x=some o→s'.E x=some o)→Yl P oi ρ s' v)
  (h:JAL J Q b n ds ops k cs m D fuel (AF listed i) (Aj L oi.dst v) s):JAL J Q b n ds ops k cs m D (fuel+1) listed L s:=fun T K=>by
 refine JA.take (w:=true) (v:=v) hi (by simpa using U) V Y (fun c ai=>by rw [ai] at O;simp [B5] at O) fuel listed T s Z aa (by simpa using ab) (by simpa using ac) ae (BF K hw) (fun _ s' aj ak=>ah _ K.Ee s' aj ak) ?_
 exact h _ (K.put ag v)
theorem Rw{i:Nat}{oi:Oper}(hi:ops[i]? =some oi)(U:decide (i<m)=true)(V:Cv ops m=true)(Y:Region.noSelect ops=true)(K:(!B5 oi.op)=true)(Z:FL ops listed i oi=true)(aa:EK ops listed=true)(ab:(listed.size==ops.size)=true)(ac:(Region.ready .any ops listed).contains i=true)(ae:s.q=false)
  (hw:Az L ops oi=some false) (ag:AQ n oi.dst=true)
  (h:JAL J Q b n ds ops k cs m D fuel (AF listed i) (Aj L oi.dst undef) s):JAL J Q b n ds ops k cs m D (fuel+1) listed L s:=fun T O=>by
 refine JA.take (w:=false) (v:=undef) hi (by simpa using U) V Y (fun c ah=>by rw [ah] at K;simp [B5] at K) fuel listed T s Z aa (by simpa using ab) (by simpa using ac) ae (BF O hw) (fun e=>by cases e) ?_
 exact h _ (O.put ag undef)
theorem NU(aa:s.q=false)(ab:Region.ready .any ops listed≠ [])
  (h:∀i∈Region.ready .any ops listed,∀o,ops[i]? =some o→(!B5 o.op)=true∧AQ n o.dst=true∧∃w,Az L ops o=some w∧
   (w=false→JAL J Q b n ds ops k cs m D fuel (AF listed i) (Aj L o.dst undef) s)∧
   (w=true→∀ρ,CN L ρ→lp P (execOp ρ o) (AV D s) (fun nx s'=>match nx with
    | .value v=>JAL J Q b n ds ops k cs m D fuel (AF listed i) (Aj L o.dst v) (Bu D s s')
    | .skip=>JAL J Q b n ds ops k cs m D fuel (AF listed i) (Aj L o.dst undef) (Bu D s s')
    | .enter f args=>∃R,Co J f args (Bu D s s') R∧∀v K,R v K→K.q=false∧(∀x o,(AV D s).E x=some o→(AV D K).E x=some o)∧JAL J Q b n ds ops k cs m D fuel (AF listed i) (Aj L o.dst v) K
    | _=>False) (fun _ _=>False))):
  JAL J Q b n ds ops k cs m D (fuel+1) listed L s:=fun T O=>by
 refine .inr ⟨ab,aa,fun i hi o ac=>?_⟩
 obtain⟨Z,U,w,hw,h3,ae⟩:=h i hi o ac
 have V:=BF O hw
 refine⟨fun c ag=>by rw [ag] at Z;simp [B5] at Z,fun e=>?_,fun e=>?_⟩
 ·rw [e] at V
  exact h3 V.symm _ (O.put U undef)
 ·rw [e] at V;refine BS _ (ae V.symm _ O.Ee) ?_ (fun _ _ h=>h);intro nx s' Y;cases nx with
  | value v=>exact Y _ (O.put U v)
  | skip=>exact Y _ (O.put U undef)
  | enter f args=>
   obtain⟨R,ah,ai⟩:=Y;exact⟨R,ah,fun v K aj=>let ⟨a,b,c⟩:=ai v K aj;⟨a,b,c _ (O.put U v)⟩⟩
  | _=>exact Y.elim
theorem JAL.one{i:Nat}{o:Oper}(Z:s.q=false)(V:Region.ready .any ops listed= [i])(hi:ops[i]? =some o)(O:(!B5 o.op&&AQ n o.dst)=true)(hw:Az L ops o=some true)
  (h:∀ρ,CN L ρ→lp P (execOp ρ o) (AV D s) (fun nx s'=>match nx with
    | .value v=>JAL J Q b n ds ops k cs m D fuel (AF listed i) (Aj L o.dst v) (Bu D s s')
    | .skip=>JAL J Q b n ds ops k cs m D fuel (AF listed i) (Aj L o.dst undef) (Bu D s s')
    | .enter f args=>∃R,Co J f args (Bu D s s') R∧∀v K,R v K→K.q=false∧(∀x o,(AV D s).E x=some o→(AV D K).E x=some o)∧JAL J Q b n ds ops k cs m D fuel (AF listed i) (Aj L o.dst v) K
    | _=>False) (fun _ _=>False)):
  JAL J Q b n ds ops k cs m D (fuel+1) listed L s:=by
 simp only [Bool.and_eq_true] at O;refine NU Z (by rw [V];simp) fun j U o' Y=>?_;rw [V] at U;simp at U;subst U;obtain rfl:o'=o:=by rw [hi] at Y;exact(Option.some.inj Y).symm
 exact⟨O.1,O.2,true,hw,fun e=>(by cases e),fun _=>h⟩
theorem JAL.call{i:Nat}{d:Option Tmp}{f:FuncId}{args:Array Operand}{ats:Array TypeId}{ty:TypeId}{p:String}{af:Array Edge}{g:Option (Nat×Bool)}{vs:List Value}{R:Value→St→Prop}(U:s.q=false)(V:Region.ready .any ops listed= [i])
  (Y:ops[i]? =some ⟨d,.call ⟨.value (.func f),args,ats⟩,ty,p,af,g⟩) (Z:AQ n d=true) (hw:Az L ops ⟨d,.call ⟨.value (.func f),args,ats⟩,ty,p,af,g⟩=some true) (hb:Ch P f=true) (aa:evs L args.toList=some vs)
  (ab:Co J f vs.toArray s R) (h:∀v K,R v K→K.q=false∧(∀x o,(AV D s).E x=some o→(AV D K).E x=some o)∧JAL J Q b n ds ops k cs m D fuel (AF listed i) (Aj L d v) K):
  JAL J Q b n ds ops k cs m D (fuel+1) listed L s:=by
 refine JAL.one U V Y (by simp [B5,Z]) hw fun ρ O=>?_;have ac:args.map ρ=vs.toArray:=by
  rw [← DV O aa];apply Array.ext';simp
 have ae:ρ (.func f)= .func (.func f) #[] #[]:=O _ _ rfl;simp only [execOp,resolve,bind,Sem.bind,Deferred.ofValue,ae,pure,invoke];have e: #[]++args.map ρ++ #[]=vs.toArray:=by rw [ac];simp
 rw [e];refine GX hb ?_;rw [HP];exact⟨R,ab,h⟩
theorem JAL.leaf{tail:List Nat}(K:L3 m listed=true)(hgo:∀t,Region.linearise.go .any ops (fuel+1) t listed []=tail)(h:JL J Q b n L ds (.inRegion ops tail::k) cs s):JAL J Q b n ds ops k cs m D (fuel+1) listed L s:=fun T O=>
 .inl ⟨K,fun t=>by rw [hgo t];exact h T O⟩
theorem JAL.fin(K:Region.ready .any ops listed= [])(h:JL J Q b n L ds k cs s):JAL J Q b n ds ops k cs m D 0 listed L s:=fun T O=>⟨K,JL.done h T O⟩
theorem UO{listed:Array Bool}{i:Nat}{tail:List Nat}{fuel:Nat}(K:Region.ready .any ops listed= [i])(h:∀t,Region.linearise.go .any ops fuel t (AF listed i) []=tail)(t:Nat):Region.linearise.go .any ops (fuel+1) t listed []=i::tail:=by
 simp only [Region.linearise.go];change (match(Region.ready .any ops listed)[t % (Region.ready .any ops listed).length]? with
  | some i=>Region.linearise.go .any ops fuel (t / (Region.ready .any ops listed).length) (listed.setIfInBounds i true) [i]
  | none=> [].reverse)=_
 rw [K];simp only [List.length_singleton,Nat.mod_one,List.getElem?_cons_zero];rw [linearise_go_acc];have:=h (t / 1);unfold AF at this;rw [this];rfl
theorem Sy{i:Nat}{rest:List Nat}{d:Option Tmp}{f:FuncId}{args:Array Operand}{ats:Array TypeId}{ty:TypeId}{p:String}{af:Array Edge}{g:Option (Nat×Bool)}{vs:List Value}{R:Value→St→Prop}
  (U:ops[i]? =some ⟨d,.call ⟨.value (.func f),args,ats⟩,ty,p,af,g⟩) (hw:Az L ops ⟨d,.call ⟨.value (.func f),args,ats⟩,ty,p,af,g⟩=some true) (K:((b.kind != .early)&&AQ n d)=true) (hb:Ch P f=true)
  (V:evs L args.toList=some vs) (Y:Co J f vs.toArray s R) (Z:∀v s',R v s'→JL J Q b n (Aj L d v) ds (.inRegion ops rest::k) cs s'):
  JL J Q b n L ds (.inRegion ops (i::rest)::k) cs s:=fun T O=>by
 simp only [Bool.and_eq_true] at K
 have aa:args.map (AY T)=vs.toArray:=by
  rw [← DV O.Ee V];apply Array.ext';simp
 refine Judge.oper U (BF O hw) (by simpa using K.1) (.inr fun c ab=>by cases ab) ?_;have ac:lp P (execOp (AY T) ⟨d,.call ⟨.value (.func f),args,ats⟩,ty,p,af,g⟩) s (upon J Q b T ds ops i rest k cs d) (Kl J Q b T ds ops i rest k cs):=by
  simp only [execOp,resolve,bind,Sem.bind,Deferred.ofValue,AY,pure,invoke];have e: #[]++args.map (AY T)++ #[]=vs.toArray:=by rw [aa];simp
  rw [e];refine GX hb ?_;refine Y Q _ cs fun v s' ae=>?_;rw [D7 (o:=⟨d,.call ⟨.value (.func f),args,ats⟩,ty,p,af,g⟩) _ _ _ _ _ U];exact Z v s' ae _ (O.put K.2 v)
 exact ac
theorem Co.enter{f:FuncId}{fn:Func}{c:Code}{vs:List Value}{R:Value→St→Prop}(V:P.funcs[f]? =some fn)(hb:fn.body=some c)(aa:vs.length≤fn.ntmps)
  (h:∀(Q:Goroutine→St→Prop) (K:Frame) (cs:List Frame),(∀v s',R v s'→J.ok Q (G (K.finish v) cs) s')→JL J Q (base f) fn.ntmps (DY 0 vs) [] [.code c] (K::cs) s):Co J f vs.toArray s R:=fun Q K cs Y=>by
 have he:Frame.enter P f vs.toArray .normal=fr (base f) (vs.toArray++Array.replicate (fn.ntmps - vs.length) undef) [] [.code c]:=by
  simp [Frame.enter,fr,V,hb,base];rfl
 rw [he];refine h Q K cs Y _ ⟨by simp;omega,fun t v ht=>?_⟩;obtain⟨_,O⟩:=GZ ht;have Z:t<vs.length:=by
  rcases Nat.lt_or_ge t vs.length with U | U
  ·exact U
  ·simp at O;have:=(List.getElem?_eq_some_iff.1 O).1;omega
 rw [Array.getD_eq_getD_getElem?,Array.getElem?_append_left (by simpa using Z)];simp at O;simp [O]
end
end Pal
namespace Pal
open Go Go.Conc
section
variable {P:Program}{J:Judge P}{Q:Goroutine→St→Prop}{b:Frame}{n:Nat}{ds:List Deferred}{ops:Array Oper}{k:List Item}{cs:List Frame}{L:Env}{s:St}{E E' H:LH}{B B0:List (Nat×Obj)}
theorem OP(O:s.q=false)(h:(∃w,Fits s w)→JL J Q b n L ds k cs s):JL J Q b n L ds k cs s:=fun T U=>by
 by_cases K:∃w,Fits s w
 ·exact h K T U
 ·exact J.step ⟨rfl,fun w f=>absurd ⟨w,f⟩ K,fun e=>by subst e;cases O⟩
theorem MT{x:Nat}:∀{B:List (Nat×Obj)},(∃p∈B,p.1=x)→AB B H x≠none
 | [],⟨p,K,_⟩=>by cases K
 | (c,o)::B,⟨p,K,e⟩=>by
  simp only [AB]
  split
  ·simp
  ·rename_i O;rcases List.mem_cons.1 K with q | q
   ·subst q;exact absurd e.symm O
   ·exact MT ⟨p,q,e⟩
theorem Nd.grow(hN:Nd E H B)(O:∀x,E' x≠none→AB B H x=none):Nd E' H B:=by
 have key:∀{C:List (Nat×Obj)},Nd E H C→(∀p∈C,p∈B)→Nd E' H C:=by
  intro C
  induction C with
  | nil=>intro _ _;trivial
  | cons p C U=>
   obtain⟨c,o⟩:=p;intro hC hs;refine⟨?_,hC.2.1,hC.2.2.1,U hC.2.2.2 fun p K=>hs p (List.mem_cons_of_mem _ K)⟩;cases V:E' c with
   | none=>rfl
   | some u=>exact absurd (O c (by rw [V];simp)) (MT ⟨(c,o),hs _ (by simp),rfl⟩)
 exact key hN fun p K=>K
def Mt(E:LH)(O:Nat)(v:Value)(n:Nat)(xs:List Value):Prop:=
 ∃a c,v= .slice a n c∧n≤c∧xs.length=n*O∧(n=0∨∃K off f e fr,a=some ⟨K,off,none⟩∧E K=some (.cells f e fr)∧∀j w,xs[j]? =some w→f[off+j]? =some w)
theorem Mt.nil{K:Nat}:Mt E K (.slice none 0 0) 0 []:=⟨none,0,rfl,Nat.le_refl _,by simp,.inl rfl⟩
def GS(e:TypeId)(K:Nat)(a:Option Addr)(l c:Nat)(blk:List (Nat×Obj))(xs:List Value):Prop:=
 (a=none∧l=0∧c=0∧blk= []∧xs= [])∨∃O f,a=some ⟨O,0,none⟩∧blk= [(O,.cells f e (0,0))]∧f.size=c*K∧l≤c∧xs=f.toList.take (l*K)
theorem GS.nil{e:TypeId}{K:Nat}:GS e K none 0 0 [] []:= .inl ⟨rfl,rfl,rfl,rfl,rfl⟩
theorem GS.length{e:TypeId}{K:Nat}{a:Option Addr}{l c:Nat}{blk:List (Nat×Obj)}{xs:List Value}(h:GS e K a l c blk xs):xs.length=l*K:=by
 rcases h with⟨_,rfl,_,_,rfl⟩ | ⟨U,f,_,_,h3,O,rfl⟩
 ·simp
 ·have:l*K≤c*K:=Nat.mul_le_mul_right _ O;simp [h3,Nat.min_eq_left this]
theorem Qi{t e:TypeId}{v:Value}{Q:Value→St→Prop}{X:Halt→St→Prop}{z:Value}(ht:P.underlying t=some (.slice e))(U:A0 P e=some v.cells.size)(V:zeroOf P e=some z)(ab:z.cells.size=v.cells.size)(ac:0<v.cells.size)(ae:v.cells.size≤64)
  (hN:Nd E H B) (k:∀r,Nd E H (B++ [(r,.cells v.cells e (0,0))])→Q (.slice (some ⟨r,0,none⟩) 1 1) (mk E H (B++ [(r,.cells v.cells e (0,0))]))):lp P (Instr.buildSlice t 1 #[(0,v)]) (mk E H B) Q X:=by
 unfold Instr.buildSlice;refine Ah _ _ (BM ht ?_);refine Ah _ _ (Da U ?_);rw [if_neg (by omega),if_neg (by omega)];refine Ah (x:=zeroValue e) _ (D6 V ?_);have Y:Instr.fill (fun i=>some (i*v.cells.size,v.cells.size)) ((Array.range (1*v.cells.size)).map fun i=>z.cells[i % z.cells.size]!) [(0,v)]=some v.cells:=by
  simp only [Instr.fill,Array.size_map,Array.size_range,Nat.one_mul,Nat.zero_mul];rw [if_neg (by simp)];congr 1;apply Array.ext_getElem?;intro j;have key:∀(l:List Value) (st:Nat) (c:Array Value),st+l.length≤c.size→∀j,(List.foldl (fun cs (p:Value×Nat)=>cs.setIfInBounds (0+p.2) p.1) c (l.zipIdx st))[j]? =if st≤j∧j<st+l.length then l[j - st]? else c[j]? :=by
   intro l
   induction l with
   | nil=>intro st c _ j;simp;omega
   | cons x l Z=>
    intro st c ag j;simp only [List.zipIdx_cons,List.foldl_cons,List.length_cons] at*;rw [Z (st+1) _ (by simp;omega) j];simp only [Nat.zero_add];by_cases aa:j=st
    ·subst aa;rw [if_neg (by omega),if_pos (by omega)];rw [Nat.sub_self,List.getElem?_cons_zero,Array.getElem?_setIfInBounds_self_of_lt (by omega)]
    ·by_cases K:st+1≤j∧j<st+1+l.length
     ·rw [if_pos K,if_pos (by omega)];have:j - st=(j - (st+1))+1:=by omega
      rw [this];simp
     ·rw [if_neg K,if_neg (by omega),Array.getElem?_setIfInBounds_ne (by omega)]
  have:=key v.cells.toList 0 ((Array.range v.cells.size).map fun i=>z.cells[i % z.cells.size]!) (by simp) j;rw [← Array.foldl_toList,Array.toList_zipIdx,this];by_cases O:j<v.cells.size
  ·simp [O]
  ·simp [O]
 rw [Fa];simp only [Y];exact Ah _ _ (Fc hN k)
end
end Pal
namespace Pal
open Go Go.Conc
section
variable {P:Program}{J:Judge P}{Q:Goroutine→St→Prop}{b:Frame}{n:Nat}{ds:List Deferred}{ops:Array Oper}{k:List Item}{cs:List Frame}{L:Env}{s:St}{E E' H:LH}{B B0:List (Nat×Obj)}
theorem IS{ρ:Operand→Value}{d:Option Tmp}{x y:Operand}{ats:Array TypeId}{ty:TypeId}{p:String}{af:Array Edge}{g:Option (Nat×Bool)}:
  execOp ρ ⟨d,.call ⟨.builtin .append,#[x,y],ats⟩,ty,p,af,g⟩=(do pure (Next.value (← Builtin.append_ ats ty #[ρ x,ρ y]))):=by
 simp [execOp,resolve,invoke,builtin,bind,Sem.bind,pure]
theorem Ql{ρ:Operand→Value}{d:Option Tmp}{y:Operand}{t ty:TypeId}{p:String}{af:Array Edge}{g:Option (Nat×Bool)}:
  execOp ρ ⟨d,.buildSlice t 1 #[(0,y)],ty,p,af,g⟩=(do pure (Next.value (← Instr.buildSlice t 1 #[(0,ρ y)]))):=by
 simp [execOp]
theorem UF{L:Env}{d1:Tmp}{w:Value}:ev (Aj L (some d1) w) (.tmp d1)=some w:=by
 simp [Aj,ev,look]
theorem FH{α:Type}(l r:List α)(x y:α):(l++x::r).set l.length y=l++y::r:=by simp
theorem F6{e t t1:TypeId}{V ae l c m:Nat}{a:Option Addr}{blk:List (Nat×Obj)}{xs ys:List Value}{i:Nat}{rest:List Nat}{d:Option Tmp}{x y:Operand}{ats:Array TypeId}{ty:TypeId}{p:String}{af:Array Edge}{g:Option (Nat×Bool)}{z:Value}{ax:Option Addr}{cx:Nat}{B1:List (Nat×Obj)}
  (ap:ops[i]? =some ⟨d,.call ⟨.builtin .append,#[x,y],ats⟩,ty,p,af,g⟩) (hw:Az L ops ⟨d,.call ⟨.builtin .append,#[x,y],ats⟩,ty,p,af,g⟩=some true) (aq:Bw b n ⟨d,.call ⟨.builtin .append,#[x,y],ats⟩,ty,p,af,g⟩=true)
  (ar:ev L x=some (.slice a l c)) (au:ev L y=some (.slice ax m cx)) (av:ats[0]? =some t) (aw:ats[1]? =some t1) (ht:P.underlying t=some (.slice e)) (ay:P.underlying t1=some (.slice e)) (az:A0 P e=some V) (hb:C6 P e=some ae) (aA:zeroOf P e=some z) (aB:z.cells.size=V)
  (aC:0<ae) (aD:ae≤64) (aL:0<m) (aE:l+m≤2 ^ 40) (aF:∀w∈ys,Ba w=true) (hg:GS e V a l c blk xs) (hN:Nd E H (B0++blk++B1)) (hs:EM (mk E H (B0++blk++B1)) (.slice ax m cx) V ys)
  (h:∀an aa ag,GS e V an (l+m) aa ag (xs++ys)→Nd E H (B0++ag)→JL J Q b n (Aj L d (.slice an (l+m) aa)) ds (.inRegion ops rest::k) cs (mk E H (B0++ag))):
  JL J Q b n L ds (.inRegion ops (i::rest)::k) cs (mk E H (B0++blk++B1)):=by
 refine JL.op ap hw aq fun ρ ao=>?_;rw [IS,ao x _ ar,ao y _ au];have aG:Kk (B0++blk++B1) B0.length e V a l c xs:=by
  rcases hg with⟨O,Z,h3,ah,ab⟩ | ⟨ai,f,O,Z,h3,ah,ab⟩
  ·exact .inl ⟨O,Z,h3,ab⟩
  ·refine .inr ⟨ai,f,O,?_,h3,ah,ab⟩;subst Z;simp
 have hlen:=hg.length;refine Ah _ _ (Ll (pl:=B0.length) av aw ay ht az hb aA aB hN aG hs aF aC aE aD ?_ ?_ ?_)
 ·
  intro ai f K ac aM aN aH aj ak Y;rcases hg with⟨O,_⟩ | ⟨U,f0,O,Z,h3,ah,ab⟩
  ·rw [O] at ac;cases ac
  ·subst Z;have aI:U=ai:=by rw [O] at ac;simpa using ac
   subst aI;have aJ:(B0++ [(U,Obj.cells f0 e (0,0))]++B1).set B0.length (U,.cells K e (0,0))=B0++ [(U,.cells K e (0,0))]++B1:=by
    rw [List.append_assoc,List.append_assoc];exact FH _ _ _ _
   rw [aJ] at Y ⊢;have al:Nd E H (B0++ [(U,.cells K e (0,0))]):=Nd.left Y;refine JL.drop (B0++ [(U,.cells K e (0,0))]) (fun p am=>?_) Y (h a c _ (.inr ⟨U,K,O,rfl,aj,aH,ak.symm⟩) al);exact List.mem_iff_getElem?.1 (List.mem_append_left _ am)
 ·intro _ hm;omega
 ·
  intro r K aa aK aj ak Y;have al:Nd E H (B0++ [(r,.cells K e (0,0))]):=Nd.pick Y;refine JL.drop (B0++ [(r,.cells K e (0,0))]) (fun p am=>?_) Y (h (some ⟨r,0,none⟩) aa _ (.inr ⟨r,K,rfl,rfl,aj,aK,ak.symm⟩) al);refine List.mem_iff_getElem?.1 ?_;rcases List.mem_append.1 am with q | q
  ·simp [q]
  ·exact List.mem_append_right _ q
 where
  Nd.left {E H : LH} {A C : List (Nat × Obj)} (h : Nd E H (A ++ C)) : Nd E H A := by
    induction A with
    | nil => trivial
    | cons p A ih =>
      obtain ⟨c, o⟩ := p
      obtain ⟨h1, h2, h3, h4⟩ := h
      exact ⟨h1, h2, fun q hq => h3 q (List.mem_append_left _ hq), ih h4⟩
  Nd.pick {E H : LH} {A C F : List (Nat × Obj)} {x : Nat × Obj} (h : Nd E H (A ++ C ++ F ++ [x])) : Nd E H (A ++ [x]) := by
    induction A with
    | nil =>
      have : ∀ (D : List (Nat × Obj)), Nd E H (D ++ [x]) → Nd E H [x] := by
        intro D
        induction D with
        | nil => exact fun h => h
        | cons p D ih => obtain ⟨c, o⟩ := p; exact fun h => ih h.2.2.2
      exact this _ h
    | cons p A ih =>
      obtain ⟨c, o⟩ := p
      obtain ⟨h1, h2, h3, h4⟩ := h
      refine ⟨h1, h2, fun q hq => h3 q ?_, ih h4⟩
      rcases List.mem_append.1 hq with hq | hq
      · simp [hq]
      · exact List.mem_append_right _ hq
theorem Rr{K r:Nat}{e:TypeId}{v:Value}{A:List (Nat×Obj)}(O:v.cells.size=K)(U:Nd E H (A++ [(r,.cells v.cells e (0,0))])):
  EM (mk E H (A++ [(r,.cells v.cells e (0,0))])) (.slice (some ⟨r,0,none⟩) 1 1) K v.cells.toList:=by
 refine⟨.inl rfl,by simp [O],Nat.le_refl _,fun j w V=>?_⟩;simp only [Nat.zero_add];refine NS (i:=A.length) U (c:=v.cells) (e:=e) (f:=(0,0)) (by simp) ?_;simpa using V
theorem QZ{e t t1 t2:TypeId}{K O l c:Nat}{a:Option Addr}{blk:List (Nat×Obj)}{xs:List Value}{i ab:Nat}{rest:List Nat}{d1:Tmp}{d:Option Tmp}{x y:Operand}{ats:Array TypeId}{ty U:TypeId}{p V:String}{af Y:Array Edge}{g g':Option (Nat×Bool)}{z v:Value}
  (ak:ops[i]? =some ⟨some d1,.buildSlice t2 1 #[(0,y)],U,V,Y,g'⟩) (hw:Az L ops ⟨some d1,.buildSlice t2 1 #[(0,y)],U,V,Y,g'⟩=some true) (al:Bw b n ⟨some d1,.buildSlice t2 1 #[(0,y)],U,V,Y,g'⟩=true)
  (am:ops[ab]? =some ⟨d,.call ⟨.builtin .append,#[x,.tmp d1],ats⟩,ty,p,af,g⟩) (an:∀w,Az (Aj L (some d1) w) ops ⟨d,.call ⟨.builtin .append,#[x,.tmp d1],ats⟩,ty,p,af,g⟩=some true) (ao:Bw b n ⟨d,.call ⟨.builtin .append,#[x,.tmp d1],ats⟩,ty,p,af,g⟩=true)
  (ap:∀w,ev (Aj L (some d1) w) x=some (.slice a l c)) (aq:ev L y=some v) (ar:ats[0]? =some t) (au:ats[1]? =some t1) (ht:P.underlying t=some (.slice e)) (av:P.underlying t1=some (.slice e)) (aw:P.underlying t2=some (.slice e)) (ac:A0 P e=some K) (hb:C6 P e=some O) (ae:zeroOf P e=some z) (ag:z.cells.size=K)
  (ay:0<O) (az:O≤64) (Z:v.cells.size=K) (aD:0<K) (aE:K≤64) (aA:l+1≤2 ^ 40) (aB:∀w∈v.cells.toList,Ba w=true) (hg:GS e K a l c blk xs) (hN:Nd E H (B0++blk))
  (h:∀w ah ai aa,GS e K ah (l+1) ai aa (xs++v.cells.toList)→Nd E H (B0++aa)→JL J Q b n (Aj (Aj L (some d1) w) d (.slice ah (l+1) ai)) ds (.inRegion ops rest::k) cs (mk E H (B0++aa))):
  JL J Q b n L ds (.inRegion ops (i::ab::rest)::k) cs (mk E H (B0++blk)):=by
 refine JL.op ak hw al fun ρ aC=>?_;rw [Ql,aC y _ aq];refine Ah _ _ (Qi (z:=z) (v:=v) aw (by rw [Z];exact ac) ae (by rw [Z];exact ag) (by omega) (by omega) hN fun r aj=>?_);refine F6 (B1:= [(r,.cells v.cells e (0,0))]) (m:=1) (cx:=1) (ax:=some ⟨r,0,none⟩) (y:= .tmp d1) (x:=x) (ys:=v.cells.toList) (l:=l) (c:=c) (a:=a) (blk:=blk) (xs:=xs) am (an _) ao (ap _) UF ar au ht av ac hb ae ag ay az (by omega) aA aB hg aj ?_ (h _);exact Rr Z aj
theorem QC{e:TypeId}{K l c:Nat}{a:Option Addr}{blk:List (Nat×Obj)}{xs:List Value}{todo:List Item}(hg:GS e K a l c blk xs)(hN:Nd E H (B0++blk))
  (h:∀E',Le E E'→Mt E' K (.slice a l c) l xs→Nd E' H B0→JL J Q b n L ds todo cs (mk E' H B0)):JL J Q b n L ds todo cs (mk E H (B0++blk)):=by
 rcases hg with⟨rfl,rfl,rfl,rfl,rfl⟩ | ⟨O,f,rfl,rfl,h3,V,rfl⟩
 ·simp only [List.append_nil] at hN ⊢;exact h E (Le.refl _) .nil hN
 ·have Z:(B0++ [(O,Obj.cells f e (0,0))])[B0.length]? =some (O,Obj.cells f e (0,0)):=by simp
  refine JL.freeze B0.length hN Z fun E' hle aa Y=>?_;have ab:(B0++ [(O,Obj.cells f e (0,0))]).eraseIdx B0.length=B0:=by rw [List.eraseIdx_append_of_length_le (Nat.le_refl _)];simp
  rw [ab] at Y ⊢;refine h E' hle ⟨_,c,rfl,V,?_,.inr ⟨O,0,f,e,(0,0),rfl,aa,fun j w U=>?_⟩⟩ Y
  ·have:l*K≤c*K:=Nat.mul_le_mul_right _ V;simp [h3,Nat.min_eq_left this]
  ·rw [List.getElem?_take] at U;split at U
   ·simpa using U
   ·cases U
end
end Pal
namespace Pal
open Go Go.Conc
abbrev CH(s:Nat):Value:= .int .u16 (s:Int)
abbrev iV(n:Int):Value:= .int .i64 n
section
variable {P:Program}{s:St}{ρ:Operand→Value}{d:Option Tmp}{t u ty:TypeId}{x y:Operand}{p:String}{af:Array Edge}{g:Option (Nat×Bool)}{a c:Nat}
theorem LL{m:Nat}(h:m<65536):IntKind.u16.wrap (m:Int)=m:=by
 simp only [IntKind.wrap,IntKind.bits,IntKind.signed];simp;omega
theorem Kr{m:Nat}(h:m<65536):(BitVec.ofInt IntKind.u16.bits (m:Int)).toNat=m:=by
 simp [IntKind.bits,BitVec.toNat_ofInt];omega
theorem Ts(K:ρ x=CH a)(O:ρ y=iV (c:Int))(U:c≤16):Yl P ⟨d,.binOp .shr t x y u,ty,p,af,g⟩ ρ s (CH (a>>>c)):=by
 have h:=Yl.shr (P:=P) (s:=s) (d:=d) (t:=t) (u:=u) (ty:=ty) (p:=p) (af:=af) (g:=g) K O (by omega);have e:((a:Int).fdiv (2 ^ (min (c:Int).toNat IntKind.u16.bits)))=((a>>>c:Nat):Int):=by
  have:min (c:Int).toNat IntKind.u16.bits=c:=by simp [IntKind.bits];omega
  rw [this,Nat.shiftRight_eq_div_pow,Int.fdiv_eq_ediv_of_nonneg _ (Int.pow_nonneg (by decide))];rw [Int.natCast_ediv]
  rfl
 rw [e] at h;exact h
theorem Tn(O:ρ x=CH a)(U:ρ y=CH c)(K:a<65536)(V:c<65536):Yl P ⟨d,.binOp .and t x y u,ty,p,af,g⟩ ρ s (CH (a&&& c)):=by
 have h:=Yl.and (P:=P) (s:=s) (d:=d) (t:=t) (u:=u) (ty:=ty) (p:=p) (af:=af) (g:=g) O U;rw [BitVec.toNat_and,Kr K,Kr V,LL (Nat.lt_of_le_of_lt Nat.and_le_left K)] at h;exact h
theorem Uu(U:ρ x=CH a)(V:ρ y=CH c)(K:a<65536)(O:c<65536):Yl P ⟨d,.binOp .or t x y u,ty,p,af,g⟩ ρ s (CH (a ||| c)):=by
 have h:=Yl.or (P:=P) (s:=s) (d:=d) (t:=t) (u:=u) (ty:=ty) (p:=p) (af:=af) (g:=g) U V;rw [BitVec.toNat_or,Kr K,Kr O,LL (Nat.or_lt_two_pow (n:=16) K O)] at h;exact h
theorem T3(K:ρ x=CH 1)(O:ρ y=iV (c:Int))(U:c<16):Yl P ⟨d,.binOp .shl t x y u,ty,p,af,g⟩ ρ s (CH (1<<<c)):=by
 have h:=Yl.shl (P:=P) (s:=s) (d:=d) (t:=t) (u:=u) (ty:=ty) (p:=p) (af:=af) (g:=g) K O (by omega);have e:IntKind.u16.wrap (((1:Nat):Int)*2 ^ (min (c:Int).toNat IntKind.u16.bits))=((1<<<c:Nat):Int):=by
  have V:min (c:Int).toNat IntKind.u16.bits=c:=by simp [IntKind.bits];omega
  have Y:(1<<<c)<65536:=by rw [Nat.one_shiftLeft];exact Nat.pow_lt_pow_right (n:=16) (by omega) U
  rw [V,← LL Y,Nat.one_shiftLeft];simp
 rw [e] at h;exact h
end
theorem LI{P:Program}{t:TypeId}{K:TypeInfo}(h:P.types[t]? =some K):P.info? t=some K:=by
 have:=(Array.getElem?_eq_some_iff.1 h).1;unfold Tables.info?;rw [if_pos this,h]
theorem AL{P:Program}{t:TypeId}{K:TypeInfo}(h:P.types[t]? =some K):A0 P t=some K.size:=by simp [A0,LI h]
theorem Bz{P:Program}{t:TypeId}{K:TypeInfo}(h:P.types[t]? =some K):C6 P t=some K.bytes:=by simp [C6,LI h]
theorem BY{P:Program}{t:TypeId}{K:TypeInfo}(h:P.types[t]? =some K):zeroOf P t=K.zero:=by simp [zeroOf,LI h]
def UR:TypeDesc→Bool | .struct _=>true | .array _ _=>true | _=>false
theorem BZ{P:Program}{t:TypeId}{d:TypeDesc}(h:P.underlying t=some d):Ce P t=some (UR d):=by
 unfold Ce;rw [h];cases d <;> rfl
theorem body_of{P:Program}{f:FuncId}{fn:Func}(h:P.funcs[f]? =some fn)(hb:(!(fn.name== "runtime.NumGoroutine")&&fn.body.isSome)=true):Ch P f=true:=by
 simp only [Ch,h];exact hb
theorem Tw(a c:Nat):decide (((a>>>c&&& 1:Nat):Int)=((1:Nat):Int))=a.testBit c:=by
 have:a.testBit c=decide ((a>>>c)&&& 1=1):=by
  rw [Nat.testBit,Nat.and_comm];rcases Nat.mod_two_eq_zero_or_one (a>>>c) with h | h <;> simp [Nat.and_one_is_mod,Nat.one_and_eq_mod_two,h]
 rw [this];congr 1;simp only [eq_iff_iff];omega
def PD(a:Nat):Nat→List Nat
 | 0=> []
 | n+1=>PD a n++(if a.testBit n then [n] else [])
abbrev Hz(a:Nat):List Nat:=PD a 16
end Pal
namespace Pal
end Pal
namespace Pal
open Go Go.Conc
end Pal
namespace Pal
open Go Go.Conc
def At(E:LH)(K o:Nat)(ws:List Value):Prop:=∃f e fr,E K=some (.cells f e fr)∧∀j w,ws[j]? =some w→f[o+j]? =some w
theorem At.moq{E E':LH}{K o:Nat}{ws:List Value}(h:At E K o ws)(hle:Le E E'):At E' K o ws:=let ⟨f,e,fr,O,U⟩:=h;⟨f,e,fr,hle _ _ O,U⟩
theorem At.cell{E H:LH}{B:List (Nat×Obj)}{K o j:Nat}{ws:List Value}{w:Value}(h:At E K o ws)(O:ws[j]? =some w):(mk E H B).cell? ⟨K,o+j,none⟩=some w:=
 let ⟨_,_,_,U,V⟩:=h;Rt U (V j w O)
theorem At.cells{E H:LH}{B:List (Nat×Obj)}{K o:Nat}{ws:List Value}(h:At E K o ws):∀j v,ws[j]? =some v→(mk E H B).cell? (Addr.add ⟨K,o,none⟩ j)=some v:=fun j v O=>by
 rw [AS rfl];exact h.cell O
section
variable {P:Program}{J:Judge P}{Q:Goroutine→St→Prop}{b:Frame}{n:Nat}{ds:List Deferred}{ops:Array Oper}{k:List Item}{cs:List Frame}{L:Env}{s:St}{E E' H:LH}{B B0:List (Nat×Obj)}
variable {d:Option Tmp}{x y:Operand}{t u ty e:TypeId}{p:String}{af:Array Edge}{g:Option (Nat×Bool)}{v:Value}{i:Nat}{rest:List Nat}{kd:IntKind}
theorem JL.put(h:look L i=some v)(O:JL J Q b n (Aj L (some i) v) ds k cs s):JL J Q b n L ds k cs s:=fun T K=>
 O T ⟨K.size,fun t w e=>by
  simp only [Aj,look] at e
  split at e
  ·rename_i U;subst U;cases e;exact K.at_ _ _ h
  ·exact K.at_ _ _ e⟩
theorem Rc{q:Prop} [Decidable q] (h:look L i=some (.bool (decide q)))(O:q→JL J Q b n (Aj L (some i) (.bool true)) ds k cs s)(U:¬q→JL J Q b n (Aj L (some i) (.bool false)) ds k cs s):JL J Q b n L ds k cs s:=by
 by_cases K:q
 ·refine JL.put (i:=i) (v:= .bool true) ?_ (O K);rw [h,decide_eq_true K]
 ·refine JL.put (i:=i) (v:= .bool false) ?_ (U K);rw [h,decide_eq_false K]
theorem Q4{c:Bool}(h:look L i=some (.bool c))(K:c=true→JL J Q b n (Aj L (some i) (.bool true)) ds k cs s)(O:c=false→JL J Q b n (Aj L (some i) (.bool false)) ds k cs s):JL J Q b n L ds k cs s:=by
 cases c
 ·exact JL.put h (O rfl)
 ·exact JL.put h (K rfl)
end
end Pal
namespace Pal
open Go Go.Conc
theorem Pl{P:Program}{s:St}{ρ:Operand→Value}{d:Option Tmp}{t ty ft:TypeId}{x:Operand}{p:String}{af:Array Edge}{g:Option (Nat×Bool)}{a:Addr}{K:Array Field}{i:Nat}{fl:Field}(O off:Nat)(ht:P.underlying t=some (.struct K))(U:A0 P ft=some (O+1))(hi:K[i]? =some fl)(V:fl.type=ft)(Y:fl.offset=off)(Z:ρ x= .pointer (some a)):
  Yl P ⟨d,.fieldAddr t x i,ty,p,af,g⟩ ρ s (.pointer (some (a.add off))):=by
 subst V Y;exact Yl.fieldAddr ht hi U Z
end Pal
namespace Pal
open Go Go.Conc
section
variable {P:Program}{J:Judge P}{Q:Goroutine→St→Prop}{b:Frame}{n:Nat}{ds:List Deferred}{ops:Array Oper}{k:List Item}{cs:List Frame}{L:Env}{s:St}{E E' H:LH}{B B0:List (Nat×Obj)}
variable {d:Option Tmp}{x y:Operand}{t u ty e:TypeId}{p:String}{af:Array Edge}{g:Option (Nat×Bool)}{v:Value}{i:Nat}{rest:List Nat}{kd:IntKind}
theorem At.CF{K o j:Nat}{ws:List Value}{w:Value}(h:At E K o ws)(hs:∀x o,E x=some o→s.E x=some o)(O:ws[j]? =some w):s.cell? ⟨K,o+j,none⟩=some w:=by
 obtain⟨f,e,fr,U,V⟩:=h;unfold St.cell? St.get;rw [hs _ _ U];exact V j w O
theorem At.LS{K o:Nat}{ws:List Value}(h:At E K o ws)(hs:∀x o,E x=some o→s.E x=some o):∀j v,ws[j]? =some v→s.cell? (Addr.add ⟨K,o,none⟩ j)=some v:=fun j v O=>by
 rw [AS rfl];exact h.CF hs O
end
section
variable {P:Program}{J:Judge P}{Q:Goroutine→St→Prop}{b:Frame}{n:Nat}{ds:List Deferred}{ops:Array Oper}{k:List Item}{cs:List Frame}{m fuel:Nat}{listed:Array Bool}{L:Env}{E H:LH}{B:List (Nat×Obj)}
variable {d:Option Tmp}{x y:Operand}{t u ty e:TypeId}{p:String}{af:Array Edge}{g:Option (Nat×Bool)}{v:Value}{i:Nat}{kd:IntKind}
end
end Pal
namespace Pal
open Go Go.Conc
section
variable {P:Program}{J:Judge P}{Q:Goroutine→St→Prop}{b:Frame}{n:Nat}{ds:List Deferred}{ops:Array Oper}{k:List Item}{cs:List Frame}{m fuel:Nat}{D:Nat→Bool}{listed:Array Bool}{L:Env}{s:St}{i:Nat}{v:Value}
theorem JAL.put(h:look L i=some v)(O:JAL J Q b n ds ops k cs m D fuel listed (Aj L (some i) v) s):JAL J Q b n ds ops k cs m D fuel listed L s:=fun T K=>
 O T ⟨K.size,fun t w e=>by
  simp only [Aj,look] at e
  split at e
  ·rename_i U;subst U;cases e;exact K.at_ _ _ h
  ·exact K.at_ _ _ e⟩
theorem JALcasesB_{q:Prop} [Decidable q] (h:look L i=some (.bool (decide q)))(O:q→JAL J Q b n ds ops k cs m D fuel listed (Aj L (some i) (.bool true)) s)(U:¬q→JAL J Q b n ds ops k cs m D fuel listed (Aj L (some i) (.bool false)) s):JAL J Q b n ds ops k cs m D fuel listed L s:=by
 by_cases K:q
 ·refine JAL.put (i:=i) (v:= .bool true) ?_ (O K);rw [h,decide_eq_true K]
 ·refine JAL.put (i:=i) (v:= .bool false) ?_ (U K);rw [h,decide_eq_false K]
theorem JALcasesC_{c:Bool}(h:look L i=some (.bool c))(K:c=true→JAL J Q b n ds ops k cs m D fuel listed (Aj L (some i) (.bool true)) s)(O:c=false→JAL J Q b n ds ops k cs m D fuel listed (Aj L (some i) (.bool false)) s):JAL J Q b n ds ops k cs m D fuel listed L s:=by
 cases c
 ·exact JAL.put h (O rfl)
 ·exact JAL.put h (K rfl)
end
end Pal
namespace Pal
open Go Go.Conc
structure Rp (α:Type) where
 n:Nat
 r:LH→List Value→α→Prop
 moq:∀{E E':LH} {ws:List Value} {x:α},Le E E'→r E ws x→r E' ws x
 len:∀{E:LH} {ws:List Value} {x:α},r E ws x→ws.length=n
 one:∀{E:LH} {ws:List Value} {x:α},r E ws x→∀w∈ws,Ba w=true
def rK(kd:IntKind):Rp Int:=⟨1,fun _ ws x=>ws= [.int kd x],fun _ h=>h,fun h=>by subst h;rfl,fun h w hw=>by subst h;simp at hw;subst hw;rfl⟩
abbrev rI:Rp Int:=rK .i64
def rN(kd:IntKind):Rp Nat:=⟨1,fun _ ws x=>ws= [.int kd ((x:Nat):Int)],fun _ h=>h,fun h=>by subst h;rfl,fun h w hw=>by subst h;simp at hw;subst hw;rfl⟩
def rB:Rp Bool:=⟨1,fun _ ws x=>ws= [.bool x],fun _ h=>h,fun h=>by subst h;rfl,fun h w hw=>by subst h;simp at hw;subst hw;rfl⟩
def rP{α β:Type}(p:Rp α)(q:Rp β):Rp (α×β):=⟨p.n+q.n,fun E ws x=>∃U V,ws=U++V∧p.r E U x.1∧q.r E V x.2,
 fun hle ⟨a,b,h,K,O⟩=>⟨a,b,h,p.moq hle K,q.moq hle O⟩,fun⟨a,b,h,K,O⟩=>by subst h;rw [List.length_append,p.len K,q.len O],
 fun⟨a,b,h,K,O⟩ w hw=>by
  subst h
  rcases List.mem_append.1 hw with hw | hw
  ·exact p.one K w hw
  ·exact q.one O w hw⟩
def LsR{α:Type}(p:Rp α)(E:LH)(a:Option Addr)(c:Nat)(xs:List α):Prop:=
 xs.length≤c∧((xs= []∧∀ad:Addr,a=some ad→ad.spot=none∨c=0)∨∃K off,a=some ⟨K,off,none⟩∧∀(i:Nat) x,xs[i]? =some x→∃ws,p.r E ws x∧At E K (off+i*p.n) ws)
theorem LsR.moq{α:Type}{p:Rp α}{E E':LH}{a:Option Addr}{c:Nat}{xs:List α}(h:LsR p E a c xs)(hle:Le E E'):LsR p E' a c xs:=
 ⟨h.1,h.2.imp id fun⟨K,off,O,U⟩=>⟨K,off,O,fun i x V=>let ⟨ws,h3,Y⟩:=U i x V;⟨ws,p.moq hle h3,Y.moq hle⟩⟩⟩
theorem LsR.nil{α:Type}{p:Rp α}{E:LH}{c:Nat}:LsR p E none c []:=⟨Nat.zero_le _,.inl ⟨rfl,fun _ h=>by cases h⟩⟩
def rL{α:Type}(p:Rp α):Rp (List α):=⟨1,fun E ws xs=>∃a c,ws= [.slice a xs.length c]∧LsR p E a c xs,
 fun hle ⟨a,c,h,K⟩=>⟨a,c,h,K.moq hle⟩,fun⟨a,c,h,K⟩=>by subst h;rfl,fun⟨a,c,h,K⟩ w hw=>by subst h;simp at hw;subst hw;rfl⟩
def rA{α:Type}(k:Nat)(p:Rp α):Rp (List α):=⟨k*p.n,fun E ws xs=>xs.length=k∧∃wss:List (List Value),ws=wss.flatten∧wss.length=k∧∀(i:Nat) x us,xs[i]? =some x→wss[i]? =some us→p.r E us x,
 fun hle ⟨U,wss,h,K,O⟩=>⟨U,wss,h,K,fun i x us a b=>p.moq hle (O i x us a b)⟩,
 fun {E ws xs} ⟨U,wss,h,K,O⟩=>by
  subst h
  have:∀(wss:List (List Value)) (xs:List α),xs.length=wss.length→(∀(i:Nat) x us,xs[i]? =some x→wss[i]? =some us→p.r E us x)→wss.flatten.length=wss.length*p.n:=by
   intro wss
   induction wss with
   | nil=>intro xs _ _;simp
   | cons us wss Y=>
    intro xs V h
    cases xs with
    | nil=>simp at V
    | cons x xs=>
     rw [List.flatten_cons,List.length_append,p.len (h 0 x us rfl rfl),Y xs (by simpa using V) (fun i y u a b=>h (i+1) y u a b),List.length_cons,Nat.succ_mul,Nat.add_comm]
  rw [this wss xs (by omega) O,K],
 fun {E ws xs} ⟨U,wss,h,K,O⟩ w hw=>by
  subst h
  obtain⟨us,Z,hw⟩:=List.mem_flatten.1 hw
  obtain⟨i,hi⟩:=List.mem_iff_getElem?.1 Z
  have aa:i<xs.length:=by rw [U,← K];exact(List.getElem?_eq_some_iff.1 hi).1
  exact p.one (O i _ us (List.getElem?_eq_getElem aa) hi) w hw⟩
def ix{α:Type}(xs:List α)(i:Int):Option α:=if 0≤i then xs[i.toNat]? else none
theorem FK{α:Type}{xs:List α}{i:Int}{x:α}(h:ix xs i=some x):∃m:Nat,i=m∧xs[m]? =some x:=by
 unfold ix at h;split at h
 ·exact⟨i.toNat,by omega,h⟩
 ·cases h
def Ac(x:Int):Option Int:=if -9223372036854775808≤x∧x≤9223372036854775807 then some x else none
theorem HS{x y:Int}(h:Ac x=some y):y=x∧ -9223372036854775808≤x∧x≤9223372036854775807:=by
 unfold Ac at h;split at h
 ·rename_i hb;exact⟨(Option.some.inj h).symm,hb⟩
 ·cases h
theorem bind_some{α β:Type}{o:Option α}{f:α→Option β}{r:β}(h:o.bind f=some r):∃x,o=some x∧f x=some r:=by
 cases o with
 | none=>cases h
 | some x=>exact⟨x,rfl,h⟩
inductive AH (S A:Type) where
 | more (s:S)
 | done (a:A)
def iter{S A:Type}(body:S→Option (AH S A)):Nat→S→Option A
 | 0,_=>none
 | f+1,s=>match body s with
  | none=>none
  | some (.done a)=>some a
  | some (.more s')=>iter body f s'
theorem M3{S A:Type}{body:S→Option (AH S A)}{f:Nat}{s:S}{a:A}(h:iter body (f+1) s=some a):∃st,body s=some st:=by
 simp only [iter] at h;cases hb:body s with
 | none=>rw [hb] at h;cases h
 | some st=>exact⟨st,rfl⟩
theorem Nm{S A:Type}{body:S→Option (AH S A)}{f:Nat}{s:S}{a K:A}(h:iter body (f+1) s=some a)(hb:body s=some (.done K)):K=a:=by
 simp only [iter,hb] at h;exact Option.some.inj h
theorem Nb{S A:Type}{body:S→Option (AH S A)}{f:Nat}{s s':S}{a:A}(h:iter body (f+1) s=some a)(hb:body s=some (.more s')):iter body f s'=some a:=by
 simp only [iter,hb] at h;exact h
abbrev Seg:=List (Nat×Obj)
def mkS(E H:LH)(S:List Seg):St:=mk E H S.flatten
def NdS(E H:LH)(S:List Seg):Prop:=Nd E H S.flatten
theorem Nd.mem{E H:LH}:∀{B:List (Nat×Obj)} {b:Nat} {o:Obj},Nd E H B→(b,o)∈B→∃i:Nat,B[i]? =some (b,o):=fun _ h=>List.mem_iff_getElem?.1 h
theorem Nd.iff{E H:LH}:∀{B:List (Nat×Obj)},Nd E H B↔(B.map (·.1)).Nodup∧∀p∈B,E p.1=none∧H p.1=none
 | []=>by simp [Nd]
 | (b,o)::B=>by
  simp only [Nd,List.map_cons,List.nodup_cons,List.mem_cons,forall_eq_or_imp,Nd.iff (B:=B),List.mem_map,not_exists,not_and]
  constructor
  ·rintro⟨K,O,h3,U,V⟩;exact⟨⟨h3,U⟩,⟨K,O⟩,V⟩
  ·rintro⟨⟨h3,U⟩,⟨K,O⟩,V⟩;exact⟨K,O,h3,U,V⟩
theorem Nd.perm{E H:LH}{B B':List (Nat×Obj)}(h:Nd E H B)(K:B.Perm B'):Nd E H B':=by
 rw [Nd.iff] at h ⊢;exact⟨(K.map _).nodup_iff.1 h.1,fun p O=>h.2 p (K.mem_iff.2 O)⟩
theorem HN{E H:LH}{B B':List (Nat×Obj)}(h:Nd E H B)(K:B.Perm B'):AB B H=AB B' H:=by
 funext x;by_cases O:∃p∈B,p.1=x
 ·obtain⟨⟨b,o⟩,hm,rfl⟩:=O;obtain⟨i,hi⟩:=h.mem hm;obtain⟨j,U⟩:=(h.perm K).mem (K.mem_iff.1 hm);rw [F7 h hi,F7 (h.perm K) U]
 ·have key:∀{C:List (Nat×Obj)},(∀p∈C,p.1≠x)→AB C H x=H x:=by
   intro C
   induction C with
   | nil=>intro _;rfl
   | cons p C V=>
    intro hC;obtain⟨c,u⟩:=p;have Y:x≠c:=fun e=>hC (c,u) (by simp) e.symm;simp only [AB,if_neg Y];exact V fun p K=>hC p (List.mem_cons_of_mem _ K)
  rw [key fun p K e=>O ⟨p,K,e⟩,key fun p Z e=>O ⟨p,K.mem_iff.2 Z,e⟩]
theorem Dp{E H:LH}{B B':List (Nat×Obj)}(h:Nd E H B)(K:B.Perm B'):mk E H B=mk E H B':=by unfold mk;rw [HN h K]
theorem Cz{S:List Seg}{j:Nat}{seg seg':Seg}(h:S[j]? =some seg):S.flatten.Perm ((S.set j []).flatten++seg)∧(S.set j seg').flatten.Perm ((S.set j []).flatten++seg'):=by
 induction S generalizing j with
 | nil=>simp at h
 | cons x S K=>
  cases j with
  | zero=>
   simp at h;subst h;simp only [List.set_cons_zero,List.flatten_cons,List.nil_append];exact⟨List.perm_append_comm,List.perm_append_comm⟩
  | succ j=>
   simp at h;obtain⟨O,U⟩:=K h;simp only [List.set_cons_succ,List.flatten_cons,List.append_assoc];exact⟨O.append_left x,U.append_left x⟩
theorem D8{E H:LH}{S:List Seg}{j:Nat}{seg:Seg}(hN:NdS E H S)(h:S[j]? =some seg):mkS E H S=mk E H ((S.set j []).flatten++seg)∧Nd E H ((S.set j []).flatten++seg):=
 ⟨Dp hN (Cz (seg':=seg) h).1,Nd.perm hN (Cz (seg':=seg) h).1⟩
theorem Fh{E H:LH}{S:List Seg}{j:Nat}{seg seg':Seg}(h:S[j]? =some seg)(hN:Nd E H ((S.set j []).flatten++seg')):mk E H ((S.set j []).flatten++seg')=mkS E H (S.set j seg')∧NdS E H (S.set j seg'):=
 ⟨Dp hN (Cz h).2.symm,Nd.perm hN (Cz h).2.symm⟩
theorem EF(S:List Seg)(seg:Seg):(S++ [seg]).flatten=S.flatten++seg:=by simp
theorem CM{E H:LH}{S:List Seg}{seg:Seg}(hN:Nd E H (S.flatten++seg)):mk E H (S.flatten++seg)=mkS E H (S++ [seg])∧NdS E H (S++ [seg]):=by
 unfold mkS NdS;rw [EF];exact⟨rfl,hN⟩
theorem C5{E H:LH}{S:List Seg}{j i K:Nat}{seg:Seg}{o:Obj}(hN:NdS E H S)(O:S[j]? =some seg)(hi:seg[i]? =some (K,o)):(mkS E H S).get K=some o:=by
 have hm:(K,o)∈S.flatten:=List.mem_flatten.2 ⟨seg,List.mem_of_getElem? O,List.mem_of_getElem? hi⟩;obtain⟨V,U⟩:=hN.mem hm;exact Li hN U
theorem Cn{E H:LH}{S:List Seg}{j K off:Nat}{c:Array Value}{e:TypeId}{f:Nat×Nat}{v:Value}{seg:Seg}(hN:NdS E H S)(O:S[j]? =some ((K,.cells c e f)::seg))(U:c[off]? =some v):(mkS E H S).cell? ⟨K,off,none⟩=some v:=by
 unfold St.cell?;rw [C5 (i:=0) hN O rfl];exact U
theorem QR{E H:LH}{S:List Seg}{j K off:Nat}{c:Array Value}{e:TypeId}{f:Nat×Nat}{vs:List Value}{seg:Seg}(hN:NdS E H S)(O:S[j]? =some ((K,.cells c e f)::seg))(U:∀i v,vs[i]? =some v→c[off+i]? =some v):∀i v,vs[i]? =some v→(mkS E H S).cell? (Addr.add ⟨K,off,none⟩ i)=some v:=fun i v hi=>by
 rw [AS rfl];exact Cn hN O (U i v hi)
def OL{α:Type}(e:TypeId)(p:Rp α)(E:LH)(a:Option Addr)(c:Nat)(seg:Seg)(xs:List α):Prop:=
 ∃wss:List (List Value),GS e p.n a xs.length c seg wss.flatten∧wss.length=xs.length∧∀(i:Nat) x ws,xs[i]? =some x→wss[i]? =some ws→p.r E ws x
theorem OL.moq{α:Type}{e:TypeId}{p:Rp α}{E E':LH}{a:Option Addr}{c:Nat}{seg:Seg}{xs:List α}(h:OL e p E a c seg xs)(hle:Le E E'):OL e p E' a c seg xs:=
 let ⟨wss,K,O,h3⟩:=h;⟨wss,K,O,fun i x ws U hw=>p.moq hle (h3 i x ws U hw)⟩
theorem OL.nil{α:Type}{e:TypeId}{p:Rp α}{E:LH}:OL e p E none 0 [] []:=⟨[],GS.nil,rfl,fun i x ws K=>by simp at K⟩
theorem Ga{α:Type}{p:Rp α}{E:LH}{wss:List (List Value)}{xs:List α}(K:wss.length=xs.length)(h:∀(i:Nat) x ws,xs[i]? =some x→wss[i]? =some ws→p.r E ws x):∀ws∈wss,ws.length=p.n:=fun ws hw=>by
 obtain⟨i,hi⟩:=List.mem_iff_getElem?.1 hw
 have O:i<xs.length:=by rw [← K];exact(List.getElem?_eq_some_iff.1 hi).1
 exact p.len (h i _ ws (List.getElem?_eq_getElem O) hi)
theorem GY{α:Type}{n:Nat}:∀{wss:List (List α)},(∀ws∈wss,ws.length=n)→∀{i:Nat} {ws:List α},wss[i]? =some ws→∀j w,ws[j]? =some w→wss.flatten[i*n+j]? =some w
 | [],_,_,_,h,_,_,_=>by simp at h
 | us::wss,O,0,ws,h,j,w,K=>by
  simp at h;subst h
  have:j<us.length:=(List.getElem?_eq_some_iff.1 K).1
  simp only [List.flatten_cons,Nat.zero_mul,Nat.zero_add]
  rw [List.getElem?_append_left this];exact K
 | us::wss,O,i+1,ws,h,j,w,K=>by
  simp at h
  have hu:us.length=n:=O us (by simp)
  simp only [List.flatten_cons]
  rw [List.getElem?_append_right (by rw [hu,Nat.succ_mul];omega)]
  have e:(i+1)*n+j - us.length=i*n+j:=by rw [hu,Nat.succ_mul];omega
  rw [e];exact GY (fun ws hw=>O ws (List.mem_cons_of_mem _ hw)) h j w K
end Pal
namespace Pal
open Go Go.Conc
section
variable {P:Program}{s:St}{ρ:Operand→Value}{x y z:Operand}{d:Option Tmp}{t u ty e:TypeId}{p:String}{af:Array Edge}{g:Option (Nat×Bool)}{v:Value}{kd kd':IntKind}{m m':Int}{a b:Nat}
theorem Me{a:Nat}:IntKind.u64.wrap (a:Int)=((a % 2 ^ 64:Nat):Int):=by
 simp only [IntKind.wrap,IntKind.bits,IntKind.signed];simp
theorem TB(K:ρ x= .int .u64 (a:Int))(O:ρ y= .int .u64 (b:Int)):Yl P ⟨d,.binOp .add t x y u,ty,p,af,g⟩ ρ s (.int .u64 (((a+b) % 2 ^ 64:Nat):Int)):=by
 have h:=Yl.add (P:=P) (s:=s) (d:=d) (t:=t) (u:=u) (ty:=ty) (p:=p) (af:=af) (g:=g) K O;rw [show((a:Int)+(b:Int))=((a+b:Nat):Int) by omega,Me] at h;exact h
theorem Je(K:ρ x= .int .u64 (a:Int))(O:ρ y= .int .u64 (b:Int)):Yl P ⟨d,.binOp .mul t x y u,ty,p,af,g⟩ ρ s (.int .u64 (((a*b) % 2 ^ 64:Nat):Int)):=by
 have h:=Yl.mul (P:=P) (s:=s) (d:=d) (t:=t) (u:=u) (ty:=ty) (p:=p) (af:=af) (g:=g) K O;rw [show((a:Int)*(b:Int))=((a*b:Nat):Int) by rw [Int.natCast_mul],Me] at h;exact h
theorem Jx(K:ρ x= .int .u64 (a:Int))(O:ρ y= .int .u64 (b:Int)):Yl P ⟨d,.binOp .xor t x y u,ty,p,af,g⟩ ρ s (.int .u64 (((a ^^^ b) % 2 ^ 64:Nat):Int)):=by
 have h:=Yl.xor (P:=P) (s:=s) (d:=d) (t:=t) (u:=u) (ty:=ty) (p:=p) (af:=af) (g:=g) K O;have e:(BitVec.ofInt IntKind.u64.bits (a:Int) ^^^ BitVec.ofInt IntKind.u64.bits (b:Int)).toNat=(a ^^^ b) % 2 ^ 64:=by
  rw [Nat.xor_mod_two_pow];rw [BitVec.ofInt_natCast,BitVec.ofInt_natCast];show(BitVec.ofNat 64 a ^^^ BitVec.ofNat 64 b).toNat=_;rw [BitVec.toNat_xor,BitVec.toNat_ofNat,BitVec.toNat_ofNat]
 rw [e,Me,Nat.mod_mod] at h;exact h
theorem S5(K:ρ x= .int .u64 (a:Int))(O:ρ y= .int .u64 (b:Int))(U:b≠0):Yl P ⟨d,.binOp .rem t x y u,ty,p,af,g⟩ ρ s (.int .u64 ((a % b:Nat):Int)):=by
 have h:=Yl.rem (P:=P) (s:=s) (d:=d) (t:=t) (u:=u) (ty:=ty) (p:=p) (af:=af) (g:=g) K O (by omega);rw [show(a:Int).tmod (b:Int)=((a % b:Nat):Int) from rfl] at h;exact h
theorem G8(c:Nat)(K:ρ x= .int .u64 (a:Int))(O:ρ y= .int .u64 (c:Int))(V:c≤64):Yl P ⟨d,.binOp .shr t x y u,ty,p,af,g⟩ ρ s (.int .u64 ((a>>>c:Nat):Int)):=by
 have h:=Yl.shr (P:=P) (s:=s) (d:=d) (t:=t) (u:=u) (ty:=ty) (p:=p) (af:=af) (g:=g) K O (by omega);have e:min (c:Int).toNat IntKind.u64.bits=c:=by simp [IntKind.bits];omega
 rw [e,Int.fdiv_eq_ediv_of_nonneg _ (Int.pow_nonneg (by decide))] at h;have U:(a:Int) / 2 ^ c=((a>>>c:Nat):Int):=by rw [Nat.shiftRight_eq_div_pow,Int.natCast_ediv];rfl
 rw [U] at h;exact h
def BI(m:Int):Nat:=(m % 2 ^ 64).toNat
def Iw(a:Nat):Int:=IntKind.i64.wrap (a:Int)
theorem Yl.BI(ht:P.underlying t=some (.int .i64))(hu:P.underlying u=some (.int .u64))(K:ρ x=iV m):Yl P ⟨d,.convert t u x,ty,p,af,g⟩ ρ s (.int .u64 ((BI m:Nat):Int)):=by
 have h:=CB (P:=P) (s:=s) (d:=d) (ty:=ty) (p:=p) (af:=af) (g:=g) ht hu K
 have e:IntKind.u64.wrap m=((Pal.BI m:Nat):Int):=by
  unfold Pal.BI;simp only [IntKind.wrap,IntKind.bits,IntKind.signed];simp;omega
 rw [e] at h;exact h
theorem U9(ht:P.underlying t=some (.int .u64))(hu:P.underlying u=some (.int .i64))(K:ρ x= .int .u64 (a:Int)):Yl P ⟨d,.convert t u x,ty,p,af,g⟩ ρ s (iV (Iw a)):=
 CB (P:=P) (s:=s) (d:=d) (ty:=ty) (p:=p) (af:=af) (g:=g) ht hu K
theorem Tu{r:Int}(K:ρ x=iV m)(O:ρ y=iV m')(h:Ac (m+m')=some r):Yl P ⟨d,.binOp .add t x y u,ty,p,af,g⟩ ρ s (iV r):=by
 obtain⟨rfl,hb⟩:=HS h;exact T2 K O hb
theorem BC{r:Int}(K:ρ x=iV m)(O:ρ y=iV m')(h:Ac (m - m')=some r):Yl P ⟨d,.binOp .sub t x y u,ty,p,af,g⟩ ρ s (iV r):=by
 obtain⟨rfl,hb⟩:=HS h;exact TE K O hb
theorem Gy{r:Int}(K:ρ x=iV m)(O:ρ y=iV m')(h:Ac (m*m')=some r):Yl P ⟨d,.binOp .mul t x y u,ty,p,af,g⟩ ρ s (iV r):=by
 obtain⟨rfl,hb⟩:=HS h;exact T5 K O hb
theorem GB{q:Prop} [Decidable q] (K:ρ x= .bool (decide q)):Yl P ⟨d,.unOp .not t x,ty,p,af,g⟩ ρ s (.bool (decide (¬q))):=by
 have h:=Yl.not (P:=P) (s:=s) (d:=d) (t:=t) (ty:=ty) (p:=p) (af:=af) (g:=g) K;simpa using h
theorem Ra{K:Array (Nat×Operand)}:execOp ρ ⟨d,.build t K,ty,p,af,g⟩=(do pure (Next.value (← Instr.build t (K.map fun(j,x)=>(j,ρ x))))):=by
 simp only [execOp]
theorem Yl.build{z:Value}{O:Array Field}{K:Array (Nat×Operand)}{vs:List (Nat×Value)}{places:Array (Nat×Nat)}{cells:Array Value}(Y:zeroOf P t=some z)(ht:P.underlying t=some (.struct O))(Z:O.toList.mapM (fun f=>(A0 P f.type).map fun n=>(f.offset,n))=some places.toList)
  (aa:K.toList.map (fun(j,x)=>(j,ρ x))=vs) (ab:Instr.fill (places[·]?) z.cells vs=some cells):Yl P ⟨d,.build t K,ty,p,af,g⟩ ρ s (.agg cells):=by
 refine Dl Ra ?_;unfold Instr.build;refine Ah (x:=zeroValue t) _ (D6 Y ?_);refine Ah _ _ (BM ht ?_);simp only;have key:∀(l:List Field) (acc:List (Nat×Nat)) {Q:List (Nat×Nat)→St→Prop} {X:Halt→St→Prop} (K:List (Nat×Nat)),l.mapM (fun f=>(A0 P f.type).map fun n=>(f.offset,n))=some K→Q (acc.reverse++K) s→lp P (List.mapM.loop (m:=Sem) (fun f=>do pure (f.offset,← Go.sizeOf f.type)) l acc) s Q X:=by
  intro l
  induction l with
  | nil=>
   intro acc Q X K h k;simp at h;subst h;simp only [List.append_nil] at k;exact k
  | cons f l ac=>
   intro acc Q X K h k;simp only [List.mapM_cons,bind] at h;cases U:A0 P f.type with
   | none=>rw [U] at h;simp at h
   | some n=>
    rw [U] at h;simp only [Option.map_some,Option.bind_some] at h;obtain⟨ae,ag,V⟩:=bind_some h;simp at V;subst V;have:=ac ((f.offset,n)::acc) (Q:=Q) (X:=X) ae ag (by simpa using k);simp only [List.mapM.loop];exact Ah _ _ (Ah (x:=Go.sizeOf f.type) _ (Da U this))
 have e:(K.map fun(j,x)=>(j,ρ x)).toList=vs:=by rw [← aa,Array.toList_map]
 refine Ah _ _ ?_;rw [Array.mapM_eq_mapM_toList];refine Ah (x:=List.mapM.loop (m:=Sem) (fun f=>do pure (f.offset,← Go.sizeOf f.type)) O.toList []) (f:=fun r=>pure r.toArray) (key O.toList [] places.toList Z ?_)
 simp only [List.reverse_nil,List.nil_append,lp,pure];rw [e,ab];exact⟨rfl,rfl⟩
end
end Pal
namespace Pal
open Go Go.Conc
section
variable {P:Program}{J:Judge P}{Q:Goroutine→St→Prop}{b:Frame}{n:Nat}{ds:List Deferred}{ops:Array Oper}{k:List Item}{cs:List Frame}{L:Env}{s:St}{E E' H:LH}{S:List Seg}
variable {d:Option Tmp}{x y:Operand}{t u ty e:TypeId}{p:String}{af:Array Edge}{g:Option (Nat×Bool)}{v:Value}{i:Nat}{rest:List Nat}{kd:IntKind}
theorem JS.box(O:ops[i]? =some ⟨d,.box e x,ty,p,af,g⟩)(hw:Az L ops ⟨d,.box e x,ty,p,af,g⟩=some true)(U:Bw b n ⟨d,.box e x,ty,p,af,g⟩=true)(hN:NdS E H S)(V:ev L x=some v)
  (h:∀r,NdS E H (S++ [[(r,.cells v.cells e (0,0))]])→JL J Q b n (Aj L d (.pointer (some ⟨r,0,none⟩))) ds (.inRegion ops rest::k) cs (mkS E H (S++ [[(r,.cells v.cells e (0,0))]]))):
  JL J Q b n L ds (.inRegion ops (i::rest)::k) cs (mkS E H S):=
 JL.box O hw U hN V fun r K=>by rw [(CM K).1];exact h r (CM K).2
theorem JS.alloc{z:Value}(O:ops[i]? =some ⟨d,.alloc e,ty,p,af,g⟩)(hw:Az L ops ⟨d,.alloc e,ty,p,af,g⟩=some true)(U:Bw b n ⟨d,.alloc e,ty,p,af,g⟩=true)(hN:NdS E H S)(V:zeroOf P e=some z)
  (h:∀r,NdS E H (S++ [[(r,.cells z.cells e (0,0))]])→JL J Q b n (Aj L d (.pointer (some ⟨r,0,none⟩))) ds (.inRegion ops rest::k) cs (mkS E H (S++ [[(r,.cells z.cells e (0,0))]]))):
  JL J Q b n L ds (.inRegion ops (i::rest)::k) cs (mkS E H S):=
 JL.alloc O hw U hN V fun r K=>by rw [(CM K).1];exact h r (CM K).2
theorem JS.store{K off:Nat}{c:Array Value}(j:Nat)(V:ops[i]? =some ⟨d,.store t x y,ty,p,af,g⟩)(hw:Az L ops ⟨d,.store t x y,ty,p,af,g⟩=some true)(Y:Bw b n ⟨d,.store t x y,ty,p,af,g⟩=true)(hN:NdS E H S)
  (Z:ev L x=some (.pointer (some ⟨K,off,none⟩))) (aa:ev L y=some v) (ab:A0 P t=some v.cells.size) (ac:∀u∈v.cells.toList,Ba u=true) (O:S[j]? =some [(K,.cells c e (0,0))]) (hle:off+v.cells.size≤c.size)
  (h:NdS E H (S.set j [(K,.cells (AJ c off v.cells.toList) e (0,0))])→JL J Q b n (Aj L d undef) ds (.inRegion ops rest::k) cs (mkS E H (S.set j [(K,.cells (AJ c off v.cells.toList) e (0,0))]))):
  JL J Q b n L ds (.inRegion ops (i::rest)::k) cs (mkS E H S):=by
 obtain⟨ae,ag⟩:=D8 hN O;rw [ae];refine JL.store (S.set j []).flatten.length V hw Y ag Z aa ab ac (c:=c) (e:=e) (by simp) hle fun U=>?_;have ah:((S.set j []).flatten++ [(K,Obj.cells c e (0,0))]).set (S.set j []).flatten.length (K,.cells (AJ c off v.cells.toList) e (0,0))=(S.set j []).flatten++ [(K,.cells (AJ c off v.cells.toList) e (0,0))]:=FH _ _ _ _;rw [ah] at U ⊢;obtain⟨h3,ai⟩:=Fh O U;rw [h3];exact h ai
theorem JS.drop{todo:List Item}{seg:Seg}(j:Nat)(hN:NdS E H S)(K:S[j]? =some seg)(h:NdS E H (S.set j [])→JL J Q b n L ds todo cs (mkS E H (S.set j []))):JL J Q b n L ds todo cs (mkS E H S):=by
 obtain⟨V,O⟩:=D8 hN K;rw [V];have h3:Nd E H ((S.set j []).flatten++ []):=by rw [List.append_nil];exact F6.Nd.left O
 obtain⟨U,h6⟩:=Fh (seg':= []) K h3;refine JL.drop (S.set j []).flatten (fun q Y=>List.mem_iff_getElem?.1 (List.mem_append_left _ Y)) O ?_;have Z:(S.set j []).flatten++ []=(S.set j []).flatten:=List.append_nil _;rw [Z] at U;rw [U];exact h h6
theorem JSfreezeB_{todo:List Item}{K:Nat}{c:Array Value}{f:Nat×Nat}(j:Nat)(hN:NdS E H S)(U:S[j]? =some [(K,.cells c e f)])
  (h:∀E',Le E E'→At E' K 0 c.toList→NdS E' H (S.set j [])→JL J Q b n L ds todo cs (mkS E' H (S.set j []))):JL J Q b n L ds todo cs (mkS E H S):=by
 obtain⟨V,Y⟩:=D8 hN U;rw [V];have Z:((S.set j []).flatten++ [(K,Obj.cells c e f)])[(S.set j []).flatten.length]? =some (K,Obj.cells c e f):=by simp
 refine JL.freeze (S.set j []).flatten.length Y Z fun E' hle aa O=>?_;have ab:((S.set j []).flatten++ [(K,Obj.cells c e f)]).eraseIdx (S.set j []).flatten.length=(S.set j []).flatten:=by rw [List.eraseIdx_append_of_length_le (Nat.le_refl _)];simp
 rw [ab] at O ⊢;exact h E' hle ⟨_,_,_,aa,fun i w hi=>by simpa using hi⟩ O
theorem JSfreezeL_{α:Type}{pp:Rp α}{todo:List Item}{a:Option Addr}{c:Nat}{seg:Seg}{xs:List α}(j:Nat)(hg:OL e pp E a c seg xs)(hN:NdS E H S)(ac:S[j]? =some seg)
  (h:∀E',Le E E'→LsR pp E' a c xs→NdS E' H (S.set j [])→JL J Q b n L ds todo cs (mkS E' H (S.set j []))):JL J Q b n L ds todo cs (mkS E H S):=by
 obtain⟨wss,hg,Y,Z⟩:=hg;have ae:∀ad:Addr,a=some ad→ad.spot=none:=fun ad K=>by
  rcases hg with⟨O,_⟩ | ⟨aa,f,O,_⟩
  ·rw [O] at K;cases K
  ·rw [O] at K;cases K;rfl
 obtain⟨O,ag⟩:=D8 hN ac;rw [O];refine QC hg ag fun E' hle ah ai=>h E' hle ?_ ai;obtain⟨aj,ak,U,al,ar,V⟩:=ah;obtain⟨rfl,-,rfl⟩:a=aj∧xs.length=xs.length∧c=ak:=by
  simp only [Value.slice.injEq] at U;exact⟨U.1,rfl,U.2.2⟩
 refine⟨al,?_⟩;rcases V with V | ⟨aa,off,f,am,fr,an,ao,ap⟩
 ·exact .inl ⟨List.eq_nil_of_length_eq_zero V,fun ad K=> .inl (ae ad K)⟩
 ·refine .inr ⟨aa,off,an,fun i x ab=>?_⟩;have aq:i<wss.length:=by rw [Y];exact(List.getElem?_eq_some_iff.1 ab).1
  have hw:=List.getElem?_eq_getElem aq;refine⟨wss[i],pp.moq hle (Z i x _ ab hw),f,am,fr,ao,fun m w hm=>?_⟩;rw [Nat.add_assoc];exact ap _ w (GY (Ga Y Z) hw m w hm)
theorem Qs{α:Type}{pp:Rp α}{wss:List (List Value)}{xs:List α}{x:α}{ws:List Value}(O:wss.length=xs.length)(h:∀(i:Nat) x ws,xs[i]? =some x→wss[i]? =some ws→pp.r E ws x)(U:pp.r E ws x):
  ∀(i:Nat) y us,(xs++ [x])[i]? =some y→(wss++ [ws])[i]? =some us→pp.r E us y:=by
 intro i y us K hu;rcases Nat.lt_or_ge i xs.length with hi | hi
 ·rw [List.getElem?_append_left hi] at K;rw [List.getElem?_append_left (by omega)] at hu;exact h i y us K hu
 ·rw [List.getElem?_append_right hi] at K;rw [List.getElem?_append_right (by omega),O] at hu;cases hm:i - xs.length with
  | zero=>rw [hm] at K hu;simp at K hu;subst K hu;exact U
  | succ m=>rw [hm] at K;simp at K
theorem MP{α:Type}{pp:Rp α}{t1 t2:TypeId}{U c:Nat}{a:Option Addr}{seg:Seg}{xs:List α}{xv:α}{ab:Nat}{d1:Tmp}{ats:Array TypeId}{V:TypeId}{Y:String}{Z:Array Edge}{g':Option (Nat×Bool)}{z:Value}(j:Nat)
  (ag:ops[i]? =some ⟨some d1,.buildSlice t2 1 #[(0,y)],V,Y,Z,g'⟩) (hw:Az L ops ⟨some d1,.buildSlice t2 1 #[(0,y)],V,Y,Z,g'⟩=some true) (ah:Bw b n ⟨some d1,.buildSlice t2 1 #[(0,y)],V,Y,Z,g'⟩=true)
  (ai:ops[ab]? =some ⟨d,.call ⟨.builtin .append,#[x,.tmp d1],ats⟩,ty,p,af,g⟩) (aj:∀w,Az (Aj L (some d1) w) ops ⟨d,.call ⟨.builtin .append,#[x,.tmp d1],ats⟩,ty,p,af,g⟩=some true) (ak:Bw b n ⟨d,.call ⟨.builtin .append,#[x,.tmp d1],ats⟩,ty,p,af,g⟩=true)
  (al:∀w,ev (Aj L (some d1) w) x=some (.slice a xs.length c)) (am:ev L y=some v) (an:ats[0]? =some t) (ao:ats[1]? =some t1) (ht:P.underlying t=some (.slice e)) (ap:P.underlying t1=some (.slice e)) (aq:P.underlying t2=some (.slice e)) (ar:A0 P e=some pp.n) (hb:C6 P e=some U) (au:zeroOf P e=some z) (av:z.cells.size=pp.n)
  (aw:0<U) (ay:U≤64) (az:0<pp.n) (aA:pp.n≤64) (aB:xs.length+1≤2 ^ 40) (hg:OL e pp E a c seg xs) (aa:pp.r E v.cells.toList xv) (hN:NdS E H S) (ac:S[j]? =some seg)
  (h:∀w K O seg',OL e pp E K O seg' (xs++ [xv])→NdS E H (S.set j seg')→JL J Q b n (Aj (Aj L (some d1) w) d (.slice K (xs++ [xv]).length O)) ds (.inRegion ops rest::k) cs (mkS E H (S.set j seg'))):
  JL J Q b n L ds (.inRegion ops (i::ab::rest)::k) cs (mkS E H S):=by
 obtain⟨wss,hg,ae,aC⟩:=hg;obtain⟨aD,aE⟩:=D8 hN ac;rw [aD];have aF:v.cells.size=pp.n:=by simpa using pp.len aa
 refine QZ ag hw ah ai aj ak al am an ao ht ap aq ar hb au av aw ay aF az aA aB (pp.one aa) hg aE fun w K O aG aH aI=>?_;obtain⟨h3,aJ⟩:=Fh ac aI;rw [h3];have hlen:(xs++ [xv]).length=xs.length+1:=by simp
 have:=h w K O aG ⟨wss++ [v.cells.toList],by rw [hlen,List.flatten_append];simpa using aH,by simp [ae],Qs ae aC aa⟩ aJ;rw [hlen] at this;exact this
theorem Bp{α:Type}{pp:Rp α}{a:Option Addr}{c:Nat}{xs:List α}{xv:α}{m:Int}(U:LsR pp E a c xs)(hm:ix xs m=some xv)
  (V:ops[i]? =some ⟨d,.indexAddr t x y,ty,p,af,g⟩) (hw:Az L ops ⟨d,.indexAddr t x y,ty,p,af,g⟩=some true) (Y:Bw b n ⟨d,.indexAddr t x y,ty,p,af,g⟩=true)
  (Z:ev L x=some (.slice a xs.length c)) (aa:ev L y=some (.int kd m)) (ht:P.underlying t=some (.slice e)) (ab:A0 P e=some pp.n)
  (h:∀K o ws,pp.r E ws xv→At E K o ws→JL J Q b n (Aj L d (.pointer (some ⟨K,o,none⟩))) ds (.inRegion ops rest::k) cs (mkS E H S)):
  JL J Q b n L ds (.inRegion ops (i::rest)::k) cs (mkS E H S):=by
 obtain⟨m,rfl,hm⟩:=FK hm;have ac:m<xs.length:=(List.getElem?_eq_some_iff.1 hm).1;obtain⟨ah,⟨rfl,_⟩ | ⟨K,off,rfl,ae⟩⟩:=U
 ·simp at ac
 obtain⟨ws,h3,ag⟩:=ae m xv hm;refine Ay (v:= .pointer (some ⟨K,off+m*pp.n,none⟩)) V hw Y (fun ρ O=>?_) (h K _ ws h3 ag);have:=I2 (P:=P) (s:=mkS E H S) (d:=d) (ty:=ty) (p:=p) (af:=af) (g:=g) ht ab (O x _ Z) (O y _ aa) ⟨by omega,by omega⟩;rw [AS rfl] at this;simpa using this
theorem At.Hp{K o j:Nat}{ws:List Value}{w:Value}(h:At E K o ws)(O:ws[j]? =some w):(mkS E H S).cell? ⟨K,o+j,none⟩=some w:=h.cell O
theorem At.Pj{K o:Nat}{ws:List Value}(h:At E K o ws):∀j v,ws[j]? =some v→(mkS E H S).cell? (Addr.add ⟨K,o,none⟩ j)=some v:=h.cells
theorem JLjoin_{todo:List Item}(I:Env→St→Prop){c:Code}(K:∀L s,I L s→JL J Q b n L ds todo cs s)(h:(∀L s,I L s→JL J Q b n L ds todo cs s)→JL J Q b n L ds (.code c::todo) cs s):JL J Q b n L ds (.code c::todo) cs s:=h K
theorem JLjoinR_{K:List Nat}{todo:List Item}(l:List Nat)(I:Env→St→Prop)(O:∀L s,I L s→JL J Q b n L ds (.inRegion ops l::todo) cs s)(h:(∀L s,I L s→JL J Q b n L ds (.inRegion ops l::todo) cs s)→JL J Q b n L ds (.inRegion ops K::todo) cs s):JL J Q b n L ds (.inRegion ops K::todo) cs s:=h O
theorem Sc{K A:Type}{c:Code}{body:K→Option (AH K A)}{f:Nat}{O:K}{a:A}(U:iter body f O=some a)(I:Env→St→K→Prop)(Y:I L s O)
  (round:∀L s x,I L s x→(∀V,body x=some (.done V)→V=a)→(∃st,body x=some st)→(∀L' s' x',I L' s' x'→body x=some (.more x')→JL J Q b n L' ds (.inLoop c::k) cs s')→JL J Q b n L ds (.code c:: .inLoop c::k) cs s):
  JL J Q b n L ds (.code (.loop c)::k) cs s:=by
 refine Gt ?_
 induction f generalizing L s O with
 | zero=>cases U
 | succ f Z=>
  refine round L s O Y (fun V h=>Nm U h) (M3 U) fun L' s' x' aa hb=>JL.again (Z (Nb U hb) aa)
def Al(J:Judge P)(f:FuncId)(args:List Value)(E:LH)(B:Seg)(R:Value→LH→Seg→Prop):Prop:=
 ∀H,Nd E H B→Co J f args.toArray (mk E H B) (fun v s'=>∃E' B',Le E E'∧R v E' B'∧Nd E' H B'∧s'=mk E' H B')
theorem Al.enter{f:FuncId}{fn:Func}{c:Code}{vs:List Value}{B:Seg}{R:Value→LH→Seg→Prop}(O:P.funcs[f]? =some fn)(hb:fn.body=some c)(U:vs.length≤fn.ntmps)
  (h:∀(Q:Goroutine→St→Prop) (K:Frame) (cs:List Frame) (H:LH),NdS E H [B]→(∀v E' S' B',Le E E'→S'.flatten=B'→R v E' B'→NdS E' H S'→J.ok Q (G (K.finish v) cs) (mkS E' H S'))→JL J Q (base f) fn.ntmps (DY 0 vs) [] [.code c] (K::cs) (mkS E H [B])):Al J f vs E B R:=fun H hN=>
 Co.enter O hb U fun Q K cs V=>by
  have Y:mk E H B=mkS E H [B]:=by unfold mkS;simp
  rw [Y];exact h Q K cs H (by unfold NdS;simpa using hN) fun v E' S' B' hle Z aa ab=>by
   subst Z;exact V v _ ⟨E',S'.flatten,hle,aa,ab,rfl⟩
theorem Al.moq{f:FuncId}{vs:List Value}{B:Seg}{R K:Value→LH→Seg→Prop}(h:Al J f vs E B R)(U:∀v E' B',Le E E'→R v E' B'→K v E' B'):Al J f vs E B K:=fun H hN=>
 (h H hN).moq fun v s' ⟨E',B',O,V,h3,Y⟩=>⟨E',B',O,U v E' B' O V,h3,Y⟩
theorem DU{H:LH}:∀{A B:List (Nat×Obj)},AB (A++B) H=AB A (AB B H)
 | [],_=>rfl
 | (c,o)::A,B=>by
  funext x
  simp only [List.cons_append,AB]
  split
  ·rfl
  ·rw [DU]
theorem HQ{H:LH}{x:Nat}:∀{B:List (Nat×Obj)},(∀p∈B,p.1≠x)→AB B H x=H x
 | [],_=>rfl
 | (c,u)::B,K=>by
  have O:x≠c:=fun e=>K (c,u) (by simp) e.symm
  simp only [AB,if_neg O]
  exact HQ fun p U=>K p (List.mem_cons_of_mem _ U)
theorem Nd.front{A B:List (Nat×Obj)}(h:Nd E H (A++B)):Nd E (AB B H) A:=by
 rw [Nd.iff] at h ⊢;obtain⟨K,U⟩:=h;rw [List.map_append,List.nodup_append] at K;refine⟨K.1,fun q O=>⟨(U q (List.mem_append_left _ O)).1,?_⟩⟩;rw [HQ fun r V e=>K.2.2 q.1 (List.mem_map_of_mem O) r.1 (List.mem_map_of_mem V) e.symm];exact(U q (List.mem_append_left _ O)).2
theorem Nd.glue{A B:List (Nat×Obj)}(h:Nd E (AB B H) A)(U:Nd E H B):Nd E H (A++B):=by
 have V:=U;rw [Nd.iff] at h U ⊢;rw [List.map_append,List.nodup_append];have key:∀q∈A,∀r∈B,q.1≠r.1:=fun q K r O e=>by
  have:=(h.2 q K).2;rw [e] at this;obtain⟨i,hi⟩:=V.mem (b:=r.1) (o:=r.2) O;rw [F7 V hi] at this;cases this
 refine⟨⟨h.1,U.1,fun x Y y Z e=>?_⟩,fun q K=>?_⟩
 ·obtain⟨q,K,rfl⟩:=List.mem_map.1 Y;obtain⟨r,O,rfl⟩:=List.mem_map.1 Z;exact key q K r O e
 ·rcases List.mem_append.1 K with K | K
  ·refine⟨(h.2 q K).1,?_⟩;have:=(h.2 q K).2
   rwa [HQ fun r O e=>key q K r O e.symm] at this
  ·exact U.2 q K
theorem Lo{f:FuncId}{args:Array Operand}{ats:Array TypeId}{vs:List Value}{seg:Seg}{R:Value→LH→Seg→Prop}(j:Nat)
  (Z:Al J f vs E seg R) (aa:ops[i]? =some ⟨d,.call ⟨.value (.func f),args,ats⟩,ty,p,af,g⟩) (hw:Az L ops ⟨d,.call ⟨.value (.func f),args,ats⟩,ty,p,af,g⟩=some true) (ab:((b.kind != .early)&&AQ n d)=true) (hb:Ch P f=true)
  (ac:evs L args.toList=some vs) (hN:NdS E H S) (K:S[j]? =some seg) (ae:∀v E' seg',Le E E'→R v E' seg'→NdS E' H (S.set j seg')→JL J Q b n (Aj L d v) ds (.inRegion ops rest::k) cs (mkS E' H (S.set j seg'))):
  JL J Q b n L ds (.inRegion ops (i::rest)::k) cs (mkS E H S):=by
 have O:S.flatten.Perm (seg++(S.set j []).flatten):=(Cz (seg':=seg) K).1.trans List.perm_append_comm;have U:Nd E H (seg++(S.set j []).flatten):=Nd.perm hN O;have ag:mkS E H S=mk E (AB (S.set j []).flatten H) seg:=by
  rw [show mkS E H S=mk E H S.flatten from rfl,Dp hN O];unfold mk;rw [DU]
 rw [ag];refine Sy aa hw ab hb ac (Z _ (Nd.front U)) ?_;rintro v s' ⟨E',B',hle,ah,ai,rfl⟩;have aj:mk E' (AB (S.set j []).flatten H) B'=mk E' H (B'++(S.set j []).flatten):=by unfold mk;rw [DU]
 have ak:Nd E H (S.set j []).flatten:=by
  have:=U;rw [Nd.iff] at this ⊢;rw [List.map_append,List.nodup_append] at this;exact⟨this.1.2.1,fun q al=>this.2 q (List.mem_append_right _ al)⟩
 refine OP rfl fun⟨w,am⟩=>?_;have an:Nd E' H (S.set j []).flatten:=ak.grow fun x ao=>by
  have ap:=am.d x ao;have aq:AB B' (AB (S.set j []).flatten H) x=none:=ap;exact(ED aq).1
 have V:Nd E' H (B'++(S.set j []).flatten):=Nd.glue ai an;rw [aj];have Y:(B'++(S.set j []).flatten).Perm (S.set j B').flatten:=List.perm_append_comm.trans (Cz K).2.symm;rw [Dp V Y];exact ae v E' B' hle ah (Nd.perm V Y)
theorem JS.call{f:FuncId}{args:Array Operand}{ats:Array TypeId}{vs:List Value}{R:Value→LH→Seg→Prop}
  (O:Al J f vs E [] R) (U:ops[i]? =some ⟨d,.call ⟨.value (.func f),args,ats⟩,ty,p,af,g⟩) (hw:Az L ops ⟨d,.call ⟨.value (.func f),args,ats⟩,ty,p,af,g⟩=some true) (V:((b.kind != .early)&&AQ n d)=true) (hb:Ch P f=true)
  (Y:evs L args.toList=some vs) (hN:NdS E H S) (Z:∀v E' seg',Le E E'→R v E' seg'→NdS E' H (S++ [seg'])→JL J Q b n (Aj L d v) ds (.inRegion ops rest::k) cs (mkS E' H (S++ [seg']))):
  JL J Q b n L ds (.inRegion ops (i::rest)::k) cs (mkS E H S):=by
 have aa:mkS E H S=mkS E H (S++ [[]]):=by unfold mkS;simp
 rw [aa];refine Lo S.length O U hw V hb Y (by unfold NdS at hN ⊢;rw [EF,List.append_nil];exact hN) (by simp) fun v E' seg' hle ab K=>?_;have ac:(S++ [[]]).set S.length seg'=S++ [seg']:=FH _ _ _ _;rw [ac] at K ⊢;exact Z v E' seg' hle ab K
theorem Ca{todo:List Item}{S':List Seg}(K:S'.flatten=S.flatten)(hN:NdS E H S)(h:NdS E H S'→JL J Q b n L ds todo cs (mkS E H S')):JL J Q b n L ds todo cs (mkS E H S):=by
 unfold mkS NdS at*;rw [K] at h;exact h hN
end
end Pal
namespace Pal
open Go Go.Conc
def Ld(P:Program)(t:TypeId)(a:Addr)(s:St)(v:Value):Prop:=lp P (loadVar t a) s (fun u s'=>u=v∧s'=s) (fun _ _=>False)
theorem Ld.many{P:Program}{t:TypeId}{a:Addr}{s:St}{vs:List Value}(ht:Ce P t=some true)(K:A0 P t=some vs.length)(h:∀j v,vs[j]? =some v→s.cell? (a.add j)=some v):Ld P t a s (.agg vs.toArray):=MI ht K h ⟨rfl,rfl⟩
def RV(P:Program)(L:Env)(s:St):List ResultVar→List Value→Prop
 | [],[]=>True
 | .tmp t::rs,v::vs=>look L t=some v∧RV P L s rs vs
 | .cell a t::rs,v::vs=>(∃ad,look L a=some (.pointer (some ad))∧Ld P t ad s v)∧RV P L s rs vs
 | _,_=>False
def Jc:List Value→Value
 | [v]=>v
 | vs=> .tuple vs.toArray
theorem QX(vs:List Value):(if h:vs.toArray.size=1 then vs.toArray[0] else Value.tuple vs.toArray)=Jc vs:=by
 match vs with
 | []=>rfl
 | [v]=>rfl
 | a::b::c=>simp [Jc]
theorem Bc.list{P:Program}{f:FuncId}{fn:Func}{n:Nat}{L:Env}{s:St}{rs:List ResultVar}{vs:List Value}(Y:P.funcs[f]? =some fn)(Z:fn.results.toList=rs)(h:RV P L s rs vs):Bc P f L n s (Jc vs):=by
 refine⟨fn,Y,fun T U=>?_⟩;unfold results;rw [Array.mapM_eq_mapM_toList,Z];have key:∀(rs:List ResultVar) (acc vs:List Value) {Q:List Value→St→Prop} {X:Halt→St→Prop},RV P L s rs vs→Q (acc.reverse++vs) s→lp P (List.mapM.loop (m:=Sem) (fun r=>match r with
   | .tmp t=>pure (T.getD t undef)
   | .cell a t=>do loadVar t (← asAddr (T.getD a undef))) rs acc) s Q X:=by
  intro rs
  induction rs with
  | nil=>
   intro acc vs Q X h k;cases vs with
   | nil=>simp only [List.append_nil] at k;exact k
   | cons v vs=>cases h
  | cons r rs V=>
   intro acc vs Q X h k;cases vs with
   | nil=>cases r <;> cases h
   | cons v vs=>
    cases r with
    | tmp t=>
     obtain⟨K,O⟩:=h;have:=U.at_ t v K;simp only [List.mapM.loop];rw [this];exact V (v::acc) vs O (by simpa using k)
    | cell a t=>
     obtain⟨⟨ad,K,h3⟩,O⟩:=h;have:=U.at_ a _ K;simp only [List.mapM.loop];rw [this];refine Ah _ _ (BS _ (show lp P (loadVar t ad) s _ _ from h3) ?_ (fun _ _ h=>h.elim));rintro u s' ⟨rfl,rfl⟩;exact V (u::acc) vs O (by simpa using k)
 refine Ah _ _ ?_;refine Ah (x:=List.mapM.loop (m:=Sem) _ rs []) (f:=fun r=>pure r.toArray) ?_;refine key rs [] vs h ?_;simp only [List.reverse_nil,List.nil_append,lp,pure];exact⟨QX vs,trivial⟩
section
variable {P:Program}{J:Judge P}{Q:Goroutine→St→Prop}{g:Goroutine}{E H:LH}{S:List Seg}
theorem Gd{seg:Seg}(j:Nat)(hN:NdS E H S)(U:S[j]? =some seg)(h:NdS E H (S.set j [])→J.ok Q g (mkS E H (S.set j []))):J.ok Q g (mkS E H S):=by
 obtain⟨Y,K⟩:=D8 hN U;have h3:Nd E H ((S.set j []).flatten++ []):=by rw [List.append_nil];exact F6.Nd.left K
 obtain⟨ab,h6⟩:=Fh (seg':= []) U h3;refine J.ghost (s₀:=mkS E H (S.set j [])) ⟨fun _ _ h=>h,fun x o Z=>?_,fun _ _ h=> .inl h,rfl⟩ (h h6);have V:AB (S.set j []).flatten H x=some o:=Z;show(mkS E H S).H x=some o;rw [Y];show AB ((S.set j []).flatten++seg) H x=some o;rw [show AB ((S.set j []).flatten++seg) H=AB (seg++(S.set j []).flatten) H from HN K List.perm_append_comm,DU];by_cases hm:∃p∈seg,p.1=x
 ·exfalso;obtain⟨p,O,e⟩:=hm;have aa:=Nd.front (Nd.perm K List.perm_append_comm);have:=((Nd.iff.1 aa).2 p O).2;rw [e,V] at this;cases this
 ·rw [HQ fun p O e=>hm ⟨p,O,e⟩];exact V
end
section
variable {P:Program}{J:Judge P}{Q:Goroutine→St→Prop}{b:Frame}{n:Nat}{ds:List Deferred}{ops:Array Oper}{k:List Item}{cs:List Frame}{L:Env}{s:St}{E E' H:LH}{S:List Seg}
variable {d:Option Tmp}{x y:Operand}{t u ty e:TypeId}{p:String}{af:Array Edge}{g:Option (Nat×Bool)}{v:Value}{i:Nat}{rest:List Nat}{kd:IntKind}
theorem Np{ρ:Operand→Value}{len:Nat}{K:Array (Nat×Operand)}:execOp ρ ⟨d,.buildSlice t len K,ty,p,af,g⟩=(do pure (Next.value (← Instr.buildSlice t len (K.map fun(j,x)=>(j,ρ x))))):=by
 simp only [execOp]
theorem QN(v:Array Value)(off:Nat)(c:Array Value):v.zipIdx.foldl (fun cs (x,j)=>cs.setIfInBounds (off+j) x) c=AJ c off v.toList:=by
 rw [← Array.foldl_toList,Array.toList_zipIdx];have key:∀(l:List Value) (st:Nat) (c:Array Value),List.foldl (fun cs (p:Value×Nat)=>cs.setIfInBounds (off+p.2) p.1) c (l.zipIdx st)=AJ c (off+st) l:=by
  intro l
  induction l with
  | nil=>intro st c;rfl
  | cons x l K=>intro st c;simp only [List.zipIdx_cons,List.foldl_cons,AJ];rw [K];rfl
 exact key v.toList 0 c
def Ho(place:Nat→Option (Nat×Nat))(cells:Array Value):List (Nat×Value)→Option (Array Value)
 | []=>some cells
 | (i,v)::rest=>match place i with
  | none=>none
  | some (off,size)=>if v.cells.size=size∧off+v.cells.size≤cells.size then Ho place (AJ cells off v.cells.toList) rest else none
theorem fill_eq{place:Nat→Option (Nat×Nat)}:∀{vs:List (Nat×Value)} {cells:Array Value},Instr.fill place cells vs=Ho place cells vs
 | [],_=>rfl
 | (i,v)::rest,cells=>by
  simp only [Instr.fill,Ho]
  cases place i with
  | none=>rfl
  | some q=>
   obtain⟨off,size⟩:=q
   simp only
   by_cases h:v.cells.size=size∧off+v.cells.size≤cells.size
   ·rw [if_pos h,if_neg (by simp only [Bool.or_eq_true,decide_eq_true_eq,ne_eq];omega),fill_eq,QN]
   ·rw [if_neg h,if_pos (by simp only [Bool.or_eq_true,decide_eq_true_eq,ne_eq];omega)]
theorem Nw{n:Nat}:∀(vs:List Value) (st:Nat) (cells:Array Value),(∀v∈vs,v.cells.size=n)→cells.size=(st+vs.length)*n→
  ∃O,Ho (fun i=>some (i*n,n)) cells ((vs.zipIdx st).map fun q=>(q.2,q.1))=some O∧O.toList=cells.toList.take (st*n)++(vs.map (·.cells.toList)).flatten
 | [],st,cells,_,hs=>⟨cells,rfl,by simp only [List.length_nil,Nat.add_zero] at hs;simp [← hs,List.take_of_length_le]⟩
 | v::vs,st,cells,U,hs=>by
  have K:=U v (by simp)
  have hle:st*n+n≤cells.size:=by
   rw [hs,List.length_cons];have:(st+1)*n≤(st+(vs.length+1))*n:=Nat.mul_le_mul_right _ (by omega);rw [Nat.succ_mul] at this;exact this
  obtain⟨V,Y,h3⟩:=Nw vs (st+1) (AJ cells (st*n) v.cells.toList) (fun u hu=>U u (List.mem_cons_of_mem _ hu)) (by rw [Lf,hs,List.length_cons];congr 1;omega);refine⟨V,?_,?_⟩
  ·simp only [List.zipIdx_cons,List.map_cons,Ho];rw [if_pos ⟨K,by omega⟩];exact Y
  ·rw [h3,Nat.succ_mul];have:=MF cells (st*n) v.cells.toList (by simp [K];omega);rw [show v.cells.toList.length=n by simp [K]] at this;rw [this];simp
def Gl{α:Type}(pp:Rp α)(E:LH):List α→List Value→Prop
 | [],[]=>True
 | x::xs,v::vs=>pp.r E v.cells.toList x∧Gl pp E xs vs
 | _,_=>False
theorem Gl.at{E:LH}{α:Type}{pp:Rp α}:∀{xs:List α} {vs:List Value},Gl pp E xs vs→∀(i:Nat) x v,xs[i]? =some x→vs[i]? =some v→pp.r E v.cells.toList x
 | [],_,_,_,_,_,h,_=>by simp at h
 | _::_,[],h,_,_,_,_,_=>h.elim
 | x::xs,v::vs,h,0,y,u,K,hu=>by simp at K hu;subst K hu;exact h.1
 | x::xs,v::vs,h,i+1,y,u,K,hu=>Gl.at h.2 i y u (by simpa using K) (by simpa using hu)
theorem LM{E0:LH}{ρ:Operand→Value}{K:Next→St→Prop}(aj:CN L ρ){α:Type}{pp:Rp α}{len:Nat}{Y:Array (Nat×Operand)}(vs:List Value){z:Value}(xs:List α)
  (ht:P.underlying t=some (.slice e)) (ak:A0 P e=some pp.n) (al:zeroOf P e=some z) (am:decide (0<len*pp.n∧len*pp.n≤2 ^ 24)=true)
  (an:Y.toList.mapM (fun q=>(ev L q.2).map fun v=>(q.1,v))=some ((vs.zipIdx 0).map fun q=>(q.2,q.1)))
  (U:vs.length=len) (V:xs.length=len) (ao:Gl pp E0 xs vs) (hN:NdS E H S)
  (h:∀r seg,OL e pp E0 (some ⟨r,0,none⟩) len seg xs→NdS E H (S++ [seg])→K (.value (.slice (some ⟨r,0,none⟩) xs.length len)) (mkS E H (S++ [seg]))):
  lp P (execOp ρ ⟨d,.buildSlice t len Y,ty,p,af,g⟩) (mkS E H S) K (fun _ _=>False):=by
 have ac:=ao.at;have ap:(Y.map fun(j,x)=>(j,ρ x)).toList=(vs.zipIdx 0).map fun q=>(q.2,q.1):=by
  have key:∀(l:List (Nat×Operand)) (vs:List (Nat×Value)),l.mapM (fun q=>(ev L q.2).map fun v=>(q.1,v))=some vs→l.map (fun(j,x)=>(j,ρ x))=vs:=by
   intro l
   induction l with
   | nil=>intro vs h;simp at h;subst h;rfl
   | cons q l Z=>
    intro vs h;simp only [List.mapM_cons,bind] at h;cases aa:ev L q.2 with
    | none=>rw [aa] at h;simp at h
    | some w=>
     rw [aa] at h;simp only [Option.map_some,Option.bind_some] at h;obtain⟨aq,ar,ae⟩:=bind_some h;simp at ae;subst ae;simp [Z aq ar,aj _ _ aa]
  rw [Array.toList_map];exact key _ _ an
 have ag:∀v∈vs,v.cells.size=pp.n:=fun v O=>by
  obtain⟨i,hi⟩:=List.mem_iff_getElem?.1 O;have au:i<xs.length:=by rw [V,← U];exact(List.getElem?_eq_some_iff.1 hi).1
  simpa using pp.len (ac i _ v (List.getElem?_eq_getElem au) hi)
 rw [Np];refine Ah _ _ ?_;unfold Instr.buildSlice;refine Ah _ _ (BM ht ?_);refine Ah _ _ (Da ak ?_);have ay:=of_decide_eq_true am;rw [if_neg (by omega),if_neg (by omega)];refine Ah (x:=zeroValue e) _ (D6 al ?_);rw [Fa,ap];obtain⟨cells,av,ab⟩:=Nw vs 0 ((Array.range (len*pp.n)).map (z.cells[· % z.cells.size]!)) ag (by simp [U]);simp only [fill_eq,av];simp only [Nat.zero_mul,List.take_zero,List.nil_append] at ab;refine Ah _ _ (Fc hN fun r ah=>?_);rw [(CM ah).1];have ai:cells.size=len*pp.n:=by
  have:cells.toList.length=len*pp.n:=by
   rw [ab];have:∀(vs:List Value),(∀v∈vs,v.cells.size=pp.n)→(vs.map (·.cells.toList)).flatten.length=vs.length*pp.n:=by
    intro vs
    induction vs with
    | nil=>intro _;simp
    | cons v vs Z=>intro h;rw [List.map_cons,List.flatten_cons,List.length_append,Z fun w hw=>h w (List.mem_cons_of_mem _ hw),List.length_cons,Nat.succ_mul,Nat.add_comm];simp [h v (by simp)]
   rw [this vs ag,U]
  simpa using this
 have:=h r [(r,.cells cells e (0,0))] ⟨vs.map (·.cells.toList),.inr ⟨r,cells,rfl,rfl,ai,by omega,by rw [← ab,List.take_of_length_le (by simp [ai,V])]⟩,by simp [U,V],fun i x ws aw hw=>by
  rw [List.getElem?_map] at hw
  cases O:vs[i]? with
  | none=>rw [O] at hw;cases hw
  | some v=>rw [O] at hw;cases hw;exact ac i x v aw O⟩ (CM ah).2
 rw [V] at this;exact this
theorem JSlit_{α:Type}{pp:Rp α}{len:Nat}{K:Array (Nat×Operand)}(vs:List Value){z:Value}(xs:List α)
  (O:ops[i]? =some ⟨d,.buildSlice t len K,ty,p,af,g⟩) (hw:Az L ops ⟨d,.buildSlice t len K,ty,p,af,g⟩=some true) (U:Bw b n ⟨d,.buildSlice t len K,ty,p,af,g⟩=true)
  (ht:P.underlying t=some (.slice e)) (V:A0 P e=some pp.n) (Y:zeroOf P e=some z) (Z:decide (0<len*pp.n∧len*pp.n≤2 ^ 24)=true)
  (aa:K.toList.mapM (fun q=>(ev L q.2).map fun v=>(q.1,v))=some ((vs.zipIdx 0).map fun q=>(q.2,q.1)))
  (ab:vs.length=len) (ac:xs.length=len) (ae:Gl pp E xs vs) (hN:NdS E H S)
  (h:∀r seg,OL e pp E (some ⟨r,0,none⟩) len seg xs→NdS E H (S++ [seg])→JL J Q b n (Aj L d (.slice (some ⟨r,0,none⟩) xs.length len)) ds (.inRegion ops rest::k) cs (mkS E H (S++ [seg]))):
  JL J Q b n L ds (.inRegion ops (i::rest)::k) cs (mkS E H S):=by
 exact JL.op O hw U fun ρ ag=>LM ag vs xs ht V Y Z aa ab ac ae hN h
theorem OL.get{α:Type}{pp:Rp α}{a:Option Addr}{c:Nat}{seg:Seg}{xs:List α}{m:Nat}{x:α}(hg:OL e pp E a c seg xs)(hm:xs[m]? =some x):
  ∃O f ws,a=some ⟨O,0,none⟩∧seg= [(O,.cells f e (0,0))]∧pp.r E ws x∧(∀j w,ws[j]? =some w→f[m*pp.n+j]? =some w)∧(m+1)*pp.n≤f.size∧
   ∀(x':α) (ws':List Value),pp.r E ws' x'→OL e pp E a c [(O,.cells (AJ f (m*pp.n) ws') e (0,0))] (xs.set m x'):=by
 obtain⟨wss,hg,ae,Z⟩:=hg;have ag:m<xs.length:=(List.getElem?_eq_some_iff.1 hm).1;rcases hg with⟨aa,ah,_⟩ | ⟨O,f,aa,ah,h3,ai,aj⟩
 ·omega
 have hw:wss[m]? =some wss[m]:=List.getElem?_eq_getElem (by omega);have ak:=Ga ae Z;have hle:(m+1)*pp.n≤xs.length*pp.n:=Nat.mul_le_mul_right _ ag;have aq:xs.length*pp.n≤c*pp.n:=Nat.mul_le_mul_right _ ai;refine⟨O,f,wss[m],aa,ah,Z m x _ hm hw,fun j w K=>?_,by omega,fun x' ws' al=>?_⟩
 ·have:=GY ak hw j w K;rw [aj,List.getElem?_take] at this;split at this
  ·simpa using this
  ·cases this
 ·have am:ws'.length=pp.n:=pp.len al;refine⟨wss.set m ws',.inr ⟨O,_,aa,rfl,by rw [Lf];exact h3,by simpa using ai,?_⟩,by simpa using ae,fun i y us Y hu=>?_⟩
  ·simp only [List.length_set];have key:∀(wss:List (List Value)) (m:Nat) (hm:m<wss.length),(∀ws∈wss,ws.length=pp.n)→∀j,(wss.set m ws').flatten[j]? =if m*pp.n≤j∧j<(m+1)*pp.n then ws'[j - m*pp.n]? else wss.flatten[j]? :=by
    intro wss
    induction wss with
    | nil=>intro m hm;simp at hm
    | cons us wss ab=>
     intro m hm an j;have hu:us.length=pp.n:=an us (by simp);cases m with
     | zero=>
      simp only [List.set_cons_zero,List.flatten_cons,Nat.zero_mul,Nat.zero_le,true_and,Nat.zero_add,Nat.one_mul,Nat.sub_zero];split
      ·rename_i K;rw [List.getElem?_append_left (by omega)]
      ·rename_i K;rw [List.getElem?_append_right (by omega),List.getElem?_append_right (by omega),am,hu]
     | succ m=>
      simp only [List.set_cons_succ,List.flatten_cons];have U:(m+1)*pp.n=m*pp.n+pp.n:=Nat.succ_mul _ _;have ac:(m+1+1)*pp.n=(m+1)*pp.n+pp.n:=Nat.succ_mul _ _;rcases Nat.lt_or_ge j us.length with K | K
      ·rw [List.getElem?_append_left K,List.getElem?_append_left K,if_neg (by omega)]
      ·rw [List.getElem?_append_right K,List.getElem?_append_right K,ab m (by simpa using hm) (fun ws ao=>an ws (List.mem_cons_of_mem _ ao))];by_cases V:m*pp.n≤j - us.length∧j - us.length<(m+1)*pp.n
       ·rw [if_pos V,if_pos (by omega)];congr 1;omega
       ·rw [if_neg V,if_neg (by omega)]
   have ap:∀(vs:List Value) (c:Array Value) (off:Nat),off+vs.length≤c.size→∀j,(AJ c off vs)[j]? =if off≤j∧j<off+vs.length then vs[j - off]? else c[j]? :=by
    intro vs
    induction vs with
    | nil=>intro c off _ j;simp [AJ];omega
    | cons w vs ab=>
     intro c off V j;simp only [AJ,List.length_cons] at*;rw [ab _ _ (by simp;omega)];by_cases U:j=off
     ·subst U;rw [if_neg (by omega),if_pos (by omega),Nat.sub_self,List.getElem?_cons_zero,Array.getElem?_setIfInBounds_self_of_lt (by omega)]
     ·by_cases ac:off+1≤j∧j<off+1+vs.length
      ·rw [if_pos ac,if_pos (by omega)];have:j - off=(j - (off+1))+1:=by omega
       rw [this];simp
      ·rw [if_neg ac,if_neg (by omega),Array.getElem?_setIfInBounds_ne (by omega)]
   apply List.ext_getElem?;intro j;have U:(m+1)*pp.n=m*pp.n+pp.n:=Nat.succ_mul _ _;have t1:(AJ f (m*pp.n) ws').toList[j]? =(AJ f (m*pp.n) ws')[j]? :=Array.getElem?_toList;have t2:f.toList[j]? =f[j]? :=Array.getElem?_toList;rw [key wss m (by omega) ak,List.getElem?_take,t1,ap ws' f (m*pp.n) (by omega),aj,List.getElem?_take,t2,am];by_cases V:m*pp.n≤j∧j<(m+1)*pp.n
   ·rw [if_pos V,if_pos (by omega),if_pos (by omega)]
   ·rw [if_neg V,if_neg (show ¬(m*pp.n≤j∧j<m*pp.n+pp.n) by omega)]
  ·rw [List.getElem?_set] at Y hu;by_cases U:m=i
   ·subst U;rw [if_pos rfl,if_pos ag] at Y;rw [if_pos rfl,if_pos (by omega)] at hu;cases Y;cases hu;exact al
   ·rw [if_neg U] at hu Y;exact Z i y us Y hu
theorem Jb{α:Type}{pp:Rp α}{a:Option Addr}{c:Nat}{seg:Seg}{xs:List α}{xv:α}{m:Int}(j:Nat)(hg:OL e pp E a c seg xs)(hm:ix xs m=some xv)(U:S[j]? =some seg)
  (V:ops[i]? =some ⟨d,.indexAddr t x y,ty,p,af,g⟩) (hw:Az L ops ⟨d,.indexAddr t x y,ty,p,af,g⟩=some true) (Y:Bw b n ⟨d,.indexAddr t x y,ty,p,af,g⟩=true)
  (Z:ev L x=some (.slice a xs.length c)) (aa:ev L y=some (.int kd m)) (ht:P.underlying t=some (.slice e)) (ab:A0 P e=some pp.n)
  (h:∀K o f ws,S[j]? =some [(K,.cells f e (0,0))]→pp.r E ws xv→(∀j w,ws[j]? =some w→f[o+j]? =some w)→o+pp.n≤f.size→(∀(x':α) (ws':List Value),pp.r E ws' x'→OL e pp E a c [(K,.cells (AJ f o ws') e (0,0))] (xs.set m.toNat x'))→o=m.toNat*pp.n→a=some ⟨K,0,none⟩→
   JL J Q b n (Aj L d (.pointer (some ⟨K,o,none⟩))) ds (.inRegion ops rest::k) cs (mkS E H S)):
  JL J Q b n L ds (.inRegion ops (i::rest)::k) cs (mkS E H S):=by
 obtain⟨m,rfl,hm⟩:=FK hm;have aj:m<xs.length:=(List.getElem?_eq_some_iff.1 hm).1;obtain⟨K,f,ws,rfl,rfl,ac,ae,h3,ag⟩:=OL.get hg hm;have ah:(m+1)*pp.n=m*pp.n+pp.n:=Nat.succ_mul _ _;have ai:m*pp.n+pp.n≤f.size:=by rw [← ah];exact h3
 refine Ay (v:= .pointer (some ⟨K,m*pp.n,none⟩)) V hw Y (fun ρ O=>?_) (h K (m*pp.n) f ws U ac ae ai (by simpa using ag) (by simp) rfl);have:=I2 (P:=P) (s:=mkS E H S) (d:=d) (ty:=ty) (p:=p) (af:=af) (g:=g) ht ab (O x _ Z) (O y _ aa) ⟨by omega,by omega⟩;rw [AS rfl] at this;simpa using this
end
end Pal
namespace Pal
open Go Go.Conc
section
variable {P:Program}{J:Judge P}{Q:Goroutine→St→Prop}{b:Frame}{n:Nat}{ds:List Deferred}{ops:Array Oper}{k:List Item}{cs:List Frame}{L:Env}{s:St}{E E' H:LH}{S:List Seg}
variable {d:Option Tmp}{x y:Operand}{t u ty e:TypeId}{p:String}{af:Array Edge}{g:Option (Nat×Bool)}{v:Value}{i:Nat}{rest:List Nat}{kd:IntKind}
theorem JS.perm{todo:List Item}{S':List Seg}(K:S.flatten.Perm S'.flatten)(hN:NdS E H S)(h:NdS E H S'→JL J Q b n L ds todo cs (mkS E H S')):JL J Q b n L ds todo cs (mkS E H S):=by
 have O:NdS E H S':=Nd.perm hN K;rw [show mkS E H S=mkS E H S' from Dp hN K];exact h O
theorem CZ{todo:List Item}{A B:Seg}(j:Nat)(K:S[j]? =some (A++B))(hN:NdS E H S)(h:NdS E H (S.set j A++ [B])→JL J Q b n L ds todo cs (mkS E H (S.set j A++ [B]))):JL J Q b n L ds todo cs (mkS E H S):=by
 refine JS.perm ?_ hN h;have O:=(Cz (seg':=A) K).1;have U:=(Cz (seg':=A) K).2;rw [EF];refine O.trans ?_;have h3:=U.symm.append_right B
 rwa [List.append_assoc] at h3
theorem JS.swap{todo:List Item}{A B:Seg}(j l:Nat)(O:S[j]? =some A)(U:S[l]? =some B)(Y:(j==l)=false)(hN:NdS E H S)(h:NdS E H ((S.set j B).set l A)→JL J Q b n L ds todo cs (mkS E H ((S.set j B).set l A))):JL J Q b n L ds todo cs (mkS E H S):=by
 have K:j≠l:=by simpa using Y
 refine JS.perm ?_ hN h;have a1:=(Cz (seg':=B) O).1;have Z:(S.set j [])[l]? =some B:=by rw [List.getElem?_set_ne K];exact U
 have aa:=(Cz (seg':=A) Z).1;have ab:((S.set j B).set l A)[l]? =some A:=by
  have:l<(S.set j B).length:=by rw [List.length_set];exact(List.getElem?_eq_some_iff.1 U).1
  rw [List.getElem?_set,if_pos rfl,if_pos this]
 have V:=(Cz (seg':=A) ab).1;rw [List.set_set] at V;have ac:((S.set j B).set l [])[j]? =some B:=by
  have:j<S.length:=(List.getElem?_eq_some_iff.1 O).1;rw [List.getElem?_set_ne (Ne.symm K)];simp [this]
 have c2:=(Cz (seg':=B) ac).1;have ae:(((S.set j B).set l []).set j [])=((S.set j []).set l []):=by
  rw [List.set_comm _ _ K,List.set_set,List.set_comm _ _ K.symm]
 rw [ae] at c2;exact a1.trans ((aa.append_right A).trans ((c2.symm.append_right A).trans V.symm))
theorem DT{K off:Nat}{c:Array Value}{f:Nat×Nat}{vs:List Value}{seg:Seg}(j:Nat)(hN:NdS E H S)(O:S[j]? =some ((K,.cells c e f)::seg))(U:(c.toList.drop off).take vs.length=vs):∀i v,vs[i]? =some v→(mkS E H S).cell? (Addr.add ⟨K,off,none⟩ i)=some v:=
 QR hN O fun i v hi=>by
  have V:i<vs.length:=(List.getElem?_eq_some_iff.1 hi).1
  rw [← U,List.getElem?_take_of_lt V,List.getElem?_drop,Array.getElem?_toList] at hi
  exact hi
theorem I0(vs:List Value):∀(c:Array Value) (off:Nat),off+vs.length≤c.size→∀j,(AJ c off vs)[j]? =if off≤j∧j<off+vs.length then vs[j - off]? else c[j]? :=by
 induction vs with
 | nil=>intro c off _ j;simp [AJ];omega
 | cons w vs O=>
  intro c off V j;simp only [AJ,List.length_cons] at*;rw [O _ _ (by simp;omega)];by_cases U:j=off
  ·subst U;rw [if_neg (by omega),if_pos (by omega),Nat.sub_self,List.getElem?_cons_zero,Array.getElem?_setIfInBounds_self_of_lt (by omega)]
  ·by_cases K:off+1≤j∧j<off+1+vs.length
   ·rw [if_pos K,if_pos (by omega)];have:j - off=(j - (off+1))+1:=by omega
    rw [this];simp
   ·rw [if_neg K,if_neg (by omega),Array.getElem?_setIfInBounds_ne (by omega)]
theorem QL{f:Array Value}{o m:Nat}{ws us vs:List Value}(hle:o+ws.length≤f.size)(V:∀j w,ws[j]? =some w→f[o+j]? =some w)(K:vs=ws.take m++us++ws.drop (m+us.length))(hm:m+us.length≤ws.length):AJ f (o+m) us=AJ f o vs:=by
 have Y:vs.length=ws.length:=by subst K;simp;omega
 apply Array.ext_getElem?;intro j;rw [I0 us f (o+m) (by omega),I0 vs f o (by omega),Y];by_cases O:o+m≤j∧j<o+m+us.length
 ·rw [if_pos O,if_pos (by omega)];subst K;rw [List.getElem?_append_left (by simp;omega),List.getElem?_append_right (by simp;omega)];congr 1;simp;omega
 ·rw [if_neg O];by_cases U:o≤j∧j<o+ws.length
  ·rw [if_pos U];have hw:ws[j - o]? =some ws[j - o]:=List.getElem?_eq_getElem (by omega);have:=V _ _ hw;rw [show o+(j - o)=j by omega] at this;rw [this,← hw];subst K;rcases Nat.lt_or_ge (j - o) m with h3 | h3
   ·rw [List.getElem?_append_left (by simp;omega),List.getElem?_append_left (by simp;omega),List.getElem?_take_of_lt h3]
   ·rw [List.getElem?_append_right (by simp;omega),List.getElem?_drop];congr 1;simp;omega
  ·rw [if_neg U]
end
end Pal
namespace Pal
open Go Go.Conc
theorem elim_inl{α β K:Type}{f:α→Option K}{g:β→Option K}{x:α}{r:K}(h:Sum.elim f g (.inl x)=some r):f x=some r:=h
theorem elim_inr{α β K:Type}{f:α→Option K}{g:β→Option K}{x:β}{r:K}(h:Sum.elim f g (.inr x)=some r):g x=some r:=h
def room{α:Type}(xs:List α)(x:α):Option (List α):=if xs.length+1≤2 ^ 40 then some (xs++ [x]) else none
theorem RG{α:Type}{xs ys:List α}{x:α}(h:room xs x=some ys):xs.length+1≤2 ^ 40∧ys=xs++ [x]:=by
 unfold room at h;split at h
 ·rename_i hb;exact⟨hb,(Option.some.inj h).symm⟩
 ·cases h
def J7(a b:Nat):Option Nat:=if b=0 then none else some (a % b)
def GR(a b:Nat):Option Nat:=if a<65536∧b<65536 then some (a ||| b) else none
def Hq(a b:Nat):Option Nat:=if a<65536∧b<65536 then some (a&&& b) else none
section
variable {P:Program}{s:St}{ρ:Operand→Value}{x y z:Operand}{d:Option Tmp}{t u ty e:TypeId}{p:String}{af:Array Edge}{g:Option (Nat×Bool)}{v:Value}{kd kd':IntKind}{m m':Int}{a b:Nat}
theorem SI{r:Nat}(K:ρ x= .int .u64 (a:Int))(O:ρ y= .int .u64 (b:Int))(h:J7 a b=some r):Yl P ⟨d,.binOp .rem t x y u,ty,p,af,g⟩ ρ s (.int .u64 (r:Int)):=by
 unfold J7 at h;split at h
 ·cases h
 ·rename_i U;cases h;exact S5 K O U
theorem HV{r:Nat}(O:ρ x=CH a)(U:ρ y=CH b)(h:GR a b=some r):Yl P ⟨d,.binOp .or t x y u,ty,p,af,g⟩ ρ s (CH r):=by
 unfold GR at h;split at h
 ·rename_i K;cases h;exact Uu O U K.1 K.2
 ·cases h
theorem Ln{r:Nat}(O:ρ x=CH a)(U:ρ y=CH b)(h:Hq a b=some r):Yl P ⟨d,.binOp .and t x y u,ty,p,af,g⟩ ρ s (CH r):=by
 unfold Hq at h;split at h
 ·rename_i K;cases h;exact Tn O U K.1 K.2
 ·cases h
theorem Yl.min2{ats:Array TypeId}(K:ρ x=iV m)(O:ρ y=iV m'):Yl P ⟨d,.call ⟨.builtin .min,#[x,y],ats⟩,ty,p,af,g⟩ ρ s (iV (min m m')):=by
 have e:(if m'<m then m' else m)=min m m':=by split <;> omega
 simp [Yl,execOp,lp,pure,bind,Sem.bind,K,O,resolve,invoke,builtin,Builtin.min_,Builtin.min2,e]
theorem Yl.max2{ats:Array TypeId}(K:ρ x=iV m)(O:ρ y=iV m'):Yl P ⟨d,.call ⟨.builtin .max,#[x,y],ats⟩,ty,p,af,g⟩ ρ s (iV (max m m')):=by
 have e:(if m<m' then m' else m)=max m m':=by split <;> omega
 simp [Yl,execOp,lp,pure,bind,Sem.bind,K,O,resolve,invoke,builtin,Builtin.max_,Builtin.max2,e]
end
def Ij(P:Program):List Field→List (Nat×Nat)→Prop
 | f::K,(o,n)::O=>f.offset=o∧A0 P f.type=some n∧Ij P K O
 | [],[]=>True
 | _,_=>False
theorem Ij.mapM{P:Program}:∀{K:List Field} {O:List (Nat×Nat)},Ij P K O→K.mapM (fun f=>(A0 P f.type).map fun n=>(f.offset,n))=some O
 | [],[],_=>rfl
 | [],_::_,h=>h.elim
 | _::_,[],h=>h.elim
 | f::K,(o,n)::O,h=>by
  obtain⟨U,V,h3⟩:=h
  simp only [List.mapM_cons,bind,V,Option.map_some,Option.bind_some,Ij.mapM h3,U];rfl
theorem Nj{L:Env}{ρ:Operand→Value}(h:CN L ρ):∀{l:List (Nat×Operand)} {vs:List (Nat×Value)},l.mapM (fun q=>(ev L q.2).map fun v=>(q.1,v))=some vs→l.map (fun(j,x)=>(j,ρ x))=vs
 | [],vs,e=>by simp at e;subst e;rfl
 | q::l,vs,e=>by
  simp only [List.mapM_cons,bind] at e
  cases K:ev L q.2 with
  | none=>rw [K] at e;simp at e
  | some w=>
   rw [K] at e
   simp only [Option.map_some,Option.bind_some] at e
   obtain⟨V,U,O⟩:=bind_some e
   simp at O;subst O
   simp [Nj h U,h _ _ K]
theorem BJ{P:Program}{s:St}{ρ:Operand→Value}{L:Env}{d:Option Tmp}{t ty:TypeId}{p:String}{af:Array Edge}{g:Option (Nat×Bool)}{z:Value}{K:Array Field}{O:Array (Nat×Operand)}{vs:List (Nat×Value)}{cells:Array Value}(places:List (Nat×Nat))(h:CN L ρ)(U:zeroOf P t=some z)(ht:P.underlying t=some (.struct K))(V:Ij P K.toList places)
  (Y:O.toList.mapM (fun q=>(ev L q.2).map fun v=>(q.1,v))=some vs) (Z:Ho (places.toArray[·]?) z.cells vs=some cells):Yl P ⟨d,.build t O,ty,p,af,g⟩ ρ s (.agg cells):=
 Yl.build (places:=places.toArray) U ht (by simpa using V.mapM) (Nj h Y) (by rw [fill_eq];exact Z)
theorem OL.again{α:Type}{e:TypeId}{pp:Rp α}{E:LH}{a:Option Addr}{K c o:Nat}{f:Array Value}{xs:List α}{m:Int}{x:α}(hg:OL e pp E a c [(K,.cells f e (0,0))] xs)(hm:ix xs m=some x)(U:o=m.toNat*pp.n):
  ∃ws,pp.r E ws x∧(∀j w,ws[j]? =some w→f[o+j]? =some w)∧o+pp.n≤f.size∧∀(x':α) (ws':List Value),pp.r E ws' x'→OL e pp E a c [(K,.cells (AJ f o ws') e (0,0))] (xs.set m.toNat x'):=by
 obtain⟨m,rfl,hm⟩:=FK hm;obtain⟨ab,ac,ws,ae,O,h3,V,Y,h6⟩:=OL.get hg hm;simp only [List.cons.injEq,Prod.mk.injEq,Obj.cells.injEq,and_true] at O;obtain⟨rfl,rfl⟩:=O;have Z:(m+1)*pp.n=m*pp.n+pp.n:=Nat.succ_mul _ _;have aa:o=m*pp.n:=by simpa using U
 subst aa;exact⟨ws,h3,V,by rw [← Z];exact Y,by simpa using h6⟩
section
variable {P:Program}{J:Judge P}{Q:Goroutine→St→Prop}{b:Frame}{n:Nat}{ds:List Deferred}{ops:Array Oper}{k:List Item}{cs:List Frame}{L:Env}{s:St}{E E' H:LH}{S:List Seg}
variable {d:Option Tmp}{x y:Operand}{t u ty e:TypeId}{p:String}{af:Array Edge}{g:Option (Nat×Bool)}{v:Value}{i:Nat}{rest:List Nat}{kd:IntKind}
theorem JS.app{α:Type}{pp:Rp α}{t1 t2:TypeId}{K c:Nat}{a:Option Addr}{seg:Seg}{xs ys:List α}{xv:α}{Y:Nat}{d1:Tmp}{ats:Array TypeId}{O:TypeId}{U:String}{V:Array Edge}{g':Option (Nat×Bool)}{z:Value}(j:Nat)(ab:room xs xv=some ys)
  (ac:ops[i]? =some ⟨some d1,.buildSlice t2 1 #[(0,y)],O,U,V,g'⟩) (hw:Az L ops ⟨some d1,.buildSlice t2 1 #[(0,y)],O,U,V,g'⟩=some true) (ae:Bw b n ⟨some d1,.buildSlice t2 1 #[(0,y)],O,U,V,g'⟩=true)
  (ag:ops[Y]? =some ⟨d,.call ⟨.builtin .append,#[x,.tmp d1],ats⟩,ty,p,af,g⟩) (ah:∀w,Az (Aj L (some d1) w) ops ⟨d,.call ⟨.builtin .append,#[x,.tmp d1],ats⟩,ty,p,af,g⟩=some true) (ai:Bw b n ⟨d,.call ⟨.builtin .append,#[x,.tmp d1],ats⟩,ty,p,af,g⟩=true)
  (aj:∀w,ev (Aj L (some d1) w) x=some (.slice a xs.length c)) (ak:ev L y=some v) (al:ats[0]? =some t) (am:ats[1]? =some t1) (ht:P.underlying t=some (.slice e)) (an:P.underlying t1=some (.slice e)) (ao:P.underlying t2=some (.slice e)) (ap:A0 P e=some pp.n) (hb:C6 P e=some K) (aq:zeroOf P e=some z) (ar:z.cells.size=pp.n)
  (au:0<K) (av:K≤64) (aw:0<pp.n) (ay:pp.n≤64) (hg:OL e pp E a c seg xs) (az:pp.r E v.cells.toList xv) (hN:NdS E H S) (aA:S[j]? =some seg)
  (h:∀w Z aa seg',OL e pp E Z aa seg' ys→NdS E H (S.set j seg')→JL J Q b n (Aj (Aj L (some d1) w) d (.slice Z ys.length aa)) ds (.inRegion ops rest::k) cs (mkS E H (S.set j seg'))):
  JL J Q b n L ds (.inRegion ops (i::Y::rest)::k) cs (mkS E H S):=by
 obtain⟨aB,rfl⟩:=RG ab;exact MP j ac hw ae ag ah ai aj ak al am ht an ao ap hb aq ar au av aw ay aB hg az hN aA h
theorem Bm{todo:List Item}{S':List Seg}(K:S=S')(hN:NdS E H S)(h:NdS E H S'→JL J Q b n L ds todo cs (mkS E H S')):JL J Q b n L ds todo cs (mkS E H S):=by
 subst K;exact h hN
end
end Pal
namespace Pal
open Go Go.Conc
theorem Co.HA{P:Program}{J:Judge P}{f:FuncId}{args:Array Value}{s:St}{R:Value→St→Prop}(h:Co J f args s R)(U:∀v s',R v s'→s'.q=false):Co J f args s (fun v s'=>R v s'∧∃w,Fits s' w):=fun Q c cs V=>
 h Q c cs fun v s' K=>by
  by_cases O:∃w,Fits s' w
  ·exact V v s' ⟨K,O⟩
  ·exact J.step ⟨rfl,fun w f=>absurd ⟨w,f⟩ O,fun e=>by have:=U v s' K;subst e;cases this⟩
def Ak(l:List Nat):Nat→Bool:=fun x=>l.contains x
section
variable {P:Program}{J:Judge P}{Q:Goroutine→St→Prop}{b:Frame}{n:Nat}{ds:List Deferred}{ops:Array Oper}{k:List Item}{cs:List Frame}{m fuel:Nat}{D:Nat→Bool}{listed:Array Bool}{L:Env}{s:St}{E E' H:LH}{S:List Seg}
variable {d:Option Tmp}{x y:Operand}{t u ty e:TypeId}{p:String}{af:Array Edge}{g:Option (Nat×Bool)}{v:Value}{i:Nat}{kd:IntKind}
def Et(ops:Array Oper)(listed:Array Bool)(m i:Nat):Bool:=match ops[i]? with
 | some oi=>decide (i<m)&&Region.noSelect ops&& !B5 oi.op&&FL ops listed i oi&&EK ops listed&&listed.size==ops.size&&(Region.ready .any ops listed).contains i
 | none=>false
theorem SE(m:Nat){id:Nat}(hm:P.follows .mixedOrders=true)(K:(b.kind != .early)=true)
  (ht:Cv ops m=true) (h:Cv ops m=true→JAL J Q b n ds ops k cs m CP ops.size (Array.replicate ops.size false) L (mkS E H S)):JL J Q b n L ds (.code (.region id ops true)::k) cs (mkS E H S):=
 N8 m CP rfl hm K (h ht)
theorem M7{oi:Oper}{i:Nat}(hi:ops[i]? =some oi)(K:Et ops listed m i=true):decide (i<m)=true∧Region.noSelect ops=true∧(!B5 oi.op)=true∧FL ops listed i oi=true∧EK ops listed=true∧(listed.size==ops.size)=true∧(Region.ready .any ops listed).contains i=true:=by
 simp only [Et,hi,Bool.and_eq_true] at K;obtain⟨⟨⟨⟨⟨⟨O,U⟩,h3⟩,V⟩,Y⟩,h6⟩,Z⟩:=K;exact⟨O,U,h3,V,Y,h6,Z⟩
theorem LP{oi:Oper}(i:Nat)(hi:ops[i]? =some oi)(K:Cv ops m=true)(O:Et ops listed m i=true)(U:s.q=false)
  (hw:Az L ops oi=some true) (V:AQ n oi.dst=true) (Y:∀ρ,CN L ρ→∀s':St,(∀x o,(AV D s).E x=some o→s'.E x=some o)→Yl P oi ρ s' v)
  (h:JAL J Q b n ds ops k cs m D fuel (AF listed i) (Aj L oi.dst v) s):JAL J Q b n ds ops k cs m D (fuel+1) listed L s:=
 let ⟨Z,aa,h3,ab,ac,h6,ae⟩:=M7 hi O
 RO hi Z K aa h3 ab ac h6 ae U hw V (fun ρ ag s' _ hs=>Y ρ ag s' hs) h
theorem VK{oi:Oper}(i:Nat)(hi:ops[i]? =some oi)(K:Cv ops m=true)(O:Et ops listed m i=true)(U:s.q=false)
  (hw:Az L ops oi=some false) (V:AQ n oi.dst=true)
  (h:JAL J Q b n ds ops k cs m D fuel (AF listed i) (Aj L oi.dst undef) s):JAL J Q b n ds ops k cs m D (fuel+1) listed L s:=
 let ⟨Y,Z,h3,aa,ab,h6,ac⟩:=M7 hi O
 Rw hi Y K Z h3 aa ab h6 ac U hw V h
theorem UY{α:Type}{pp:Rp α}{a:Option Addr}{c:Nat}{xs:List α}{xv:α}{K:Int}(i:Nat)(Y:LsR pp E a c xs)(U:ix xs K=some xv)
  (Z:ops[i]? =some ⟨d,.indexAddr t x y,ty,p,af,g⟩) (aa:Cv ops m=true) (ab:Et ops listed m i=true) (ac:s.q=false)
  (hw:Az L ops ⟨d,.indexAddr t x y,ty,p,af,g⟩=some true) (ae:AQ n d=true)
  (ag:ev L x=some (.slice a xs.length c)) (ah:ev L y=some (.int kd K)) (ht:P.underlying t=some (.slice e)) (ai:A0 P e=some pp.n)
  (h:∀O o ws,pp.r E ws xv→At E O o ws→JAL J Q b n ds ops k cs m D fuel (AF listed i) (Aj L d (.pointer (some ⟨O,o,none⟩))) s):
  JAL J Q b n ds ops k cs m D (fuel+1) listed L s:=by
 obtain⟨K,rfl,U⟩:=FK U;have aj:K<xs.length:=(List.getElem?_eq_some_iff.1 U).1;obtain⟨am,⟨rfl,_⟩ | ⟨O,off,rfl,ak⟩⟩:=Y
 ·simp at aj
 obtain⟨ws,h3,al⟩:=ak K xv U;refine LP (v:= .pointer (some ⟨O,off+K*pp.n,none⟩)) i Z aa ab ac hw ae (fun ρ V s' _=>?_) (h O _ ws h3 al);have:=I2 (P:=P) (s:=s') (d:=d) (ty:=ty) (p:=p) (af:=af) (g:=g) ht ai (V x _ ag) (V y _ ah) ⟨by omega,by omega⟩;rw [AS rfl] at this;simpa using this
theorem JG.call{f:FuncId}{args:Array Operand}{ats:Array TypeId}{vs:List Value}{R:Value→LH→Seg→Prop}(V:Al J f vs E [] R)(Y:Region.ready .any ops listed= [i])
  (Z:ops[i]? =some ⟨d,.call ⟨.value (.func f),args,ats⟩,ty,p,af,g⟩) (aa:AQ n d=true) (hw:Az L ops ⟨d,.call ⟨.value (.func f),args,ats⟩,ty,p,af,g⟩=some true) (hb:Ch P f=true) (ab:evs L args.toList=some vs) (hN:NdS E H S)
  (ac:∀v E' seg',Le E E'→R v E' seg'→NdS E' H (S++ [seg'])→JAL J Q b n ds ops k cs m CP fuel (AF listed i) (Aj L d v) (mkS E' H (S++ [seg']))):
  JAL J Q b n ds ops k cs m CP (fuel+1) listed L (mkS E H S):=by
 have ae:=Co.HA (V (AB S.flatten H) trivial) (by rintro v s' ⟨E',B',_,_,_,rfl⟩;rfl);refine JAL.call rfl Y Z aa hw hb ab ae ?_;rintro v an ⟨⟨E',B',hle,ag,ah,rfl⟩,w,ai⟩;have aj:mk E' (AB S.flatten H) B'=mk E' H (B'++S.flatten):=by unfold mk;rw [DU]
 have ak:Nd E' H S.flatten:=Nd.grow hN fun x K=>by
  have al:=ai.d x K;have am:AB B' (AB S.flatten H) x=none:=al;exact(ED am).1
 have O:Nd E' H (B'++S.flatten):=Nd.glue ah ak;have U:(B'++S.flatten).Perm (S++ [B']).flatten:=by rw [EF];exact List.perm_append_comm
 rw [aj,Dp O U];exact⟨rfl,fun x o K=>hle x o K,ac v E' B' hle ag (Nd.perm O U)⟩
end
end Pal
namespace Pal
open Go Go.Conc
theorem J1{E H:LH}{S:List Seg}{j K:Nat}{o:Obj}{seg:Seg}(hN:NdS E H S)(O:S[j]? =some ((K,o)::seg)):E K=none:=by
 have hm:(K,o)∈S.flatten:=List.mem_flatten.2 ⟨_,List.mem_of_getElem? O,by simp⟩;exact((Nd.iff.1 hN).2 _ hm).1
end Pal
namespace Pal
open Go Go.Conc
def Iu(a:Nat)(n:Int):Option Nat:=if 0≤n∧n≤16 then some (a>>>n.toNat) else none
def Ih(n:Int):Option Nat:=if 0≤n∧n<16 then some (1<<<n.toNat) else none
def Gi{α:Type}(n:Int)(z:α):Option (List α):=if 0≤n∧n≤2 ^ 20 then some (List.replicate n.toNat z) else none
def Cj{α:Type}(xs ys:List α):Option (List α):=if xs.length+ys.length≤2 ^ 40 then some (xs++ys) else none
section
variable {P:Program}{s:St}{ρ:Operand→Value}{x y z:Operand}{d:Option Tmp}{t u ty e:TypeId}{p:String}{af:Array Edge}{g:Option (Nat×Bool)}{v:Value}{kd kd':IntKind}{m m':Int}{a b:Nat}
theorem Tp{r:Nat}(K:ρ x=CH a)(O:ρ y=iV m)(h:Iu a m=some r):Yl P ⟨d,.binOp .shr t x y u,ty,p,af,g⟩ ρ s (CH r):=by
 unfold Iu at h;split at h
 ·rename_i U;cases h;refine Ts K (c:=m.toNat) ?_ (by omega);rw [O];congr 1;omega
 ·cases h
theorem Ua{r:Nat}(K:ρ x=CH 1)(O:ρ y=iV m)(h:Ih m=some r):Yl P ⟨d,.binOp .shl t x y u,ty,p,af,g⟩ ρ s (CH r):=by
 unfold Ih at h;split at h
 ·rename_i U;cases h;refine T3 K (c:=m.toNat) ?_ (by omega);rw [O];congr 1;omega
 ·cases h
end
section
variable {P:Program}{J:Judge P}{Q:Goroutine→St→Prop}{b:Frame}{n:Nat}{ds:List Deferred}{ops:Array Oper}{k:List Item}{cs:List Frame}{L L':Env}{s:St}{E E' H:LH}{S:List Seg}
variable {d:Option Tmp}{x y:Operand}{t u ty e:TypeId}{p:String}{af:Array Edge}{g:Option (Nat×Bool)}{v:Value}{i:Nat}{rest:List Nat}{kd:IntKind}
theorem RA{ρ:Operand→Value}:execOp ρ ⟨d,.makeSlice t x y,ty,p,af,g⟩=(do pure (Next.value (← Instr.makeSlice t (ρ x) (ρ y)))):=by
 simp only [execOp]
theorem La{α:Type}(w:List α):∀m:Nat,((List.replicate m w).flatten).length=m*w.length
 | 0=>by simp
 | m+1=>by rw [List.replicate_succ,List.flatten_cons,List.length_append,La w m,Nat.succ_mul,Nat.add_comm]
theorem SH(z:Array Value)(O:0<z.size):∀m:Nat,((Array.range (m*z.size)).map (z[· % z.size]!)).toList=(List.replicate m z.toList).flatten:=by
 intro m;apply List.ext_getElem?;intro j;simp only [Array.toList_map,Array.toList_range,List.getElem?_map];by_cases K:j<m*z.size
 ·rw [List.getElem?_range K];have V:j / z.size<m:=(Nat.div_lt_iff_lt_mul O).2 K;have U:j % z.size<z.size:=Nat.mod_lt _ O;have hw:(List.replicate m z.toList)[j / z.size]? =some z.toList:=by simp [V]
  have:=GY (n:=z.size) (wss:=List.replicate m z.toList) (fun ws Y=>by rw [List.eq_of_mem_replicate Y];simp) hw (j % z.size) z[j % z.size] (by simp [U]);rw [show j / z.size*z.size+j % z.size=j from by rw [Nat.mul_comm];exact Nat.div_add_mod _ _] at this;rw [this];simp [U]
 ·have hlen:((List.replicate m z.toList).flatten).length=m*z.size:=by rw [La];simp
  rw [List.getElem?_eq_none (by simpa using K),List.getElem?_eq_none (by rw [hlen];omega)];rfl
theorem JS.make{α:Type}{pp:Rp α}{z:Value}{Y:α}{m:Int}{xs:List α}(U:Gi m Y=some xs)
  (ah:ops[i]? =some ⟨d,.makeSlice t x y,ty,p,af,g⟩) (hw:Az L ops ⟨d,.makeSlice t x y,ty,p,af,g⟩=some true) (ai:Bw b n ⟨d,.makeSlice t x y,ty,p,af,g⟩=true)
  (aj:ev L x=some (iV m)) (V:ev L y=some (iV m)) (ht:P.underlying t=some (.slice e)) (ak:A0 P e=some pp.n) {O:Nat} (hb:C6 P e=some O) (aw:O≤64) (al:zeroOf P e=some z) (ay:0<pp.n) (Z:pp.r E z.cells.toList Y) (hN:NdS E H S)
  (h:∀r seg,OL e pp E (some ⟨r,0,none⟩) xs.length seg xs→NdS E H (S++ [seg])→JL J Q b n (Aj L d (.slice (some ⟨r,0,none⟩) xs.length xs.length)) ds (.inRegion ops rest::k) cs (mkS E H (S++ [seg]))):
  JL J Q b n L ds (.inRegion ops (i::rest)::k) cs (mkS E H S):=by
 unfold Gi at U;split at U
 rotate_left
 ·cases U
 rename_i hm;cases U;refine JL.op ah hw ai fun ρ aa=>?_;rw [RA,aa x _ aj,aa y _ V];refine Ah _ _ ?_;unfold Instr.makeSlice;refine Ah _ _ (BM ht ?_);simp only [asInt,Fa];obtain⟨inf,am,an⟩:=I1 hb;refine Ah (x:=typeInfo e) _ (F4 am ?_);simp only [an,Gs (show -9223372036854775808≤m∧m≤9223372036854775807 by omega)];have az:(O:Int)*m≤64*2 ^ 20:=by
  have ab:(O:Int)*m≤64*m:=Int.mul_le_mul_of_nonneg_right (by omega) hm.1;omega
 have ao:((decide (m<0) || decide ((O:Int)*m>2 ^ 48)) || decide (m<0) || decide (m>m))=false:=by
  simp only [Bool.or_eq_false_iff,decide_eq_false_iff_not];omega
 rw [ao];simp only [Bool.false_eq_true,if_false];refine Ah (x:=askRoom _) _ ?_;have ap:∀{Q:Unit→St→Prop} {X:Halt→St→Prop} (w:Nat),Q () (mkS E H S)→lp P (askRoom w) (mkS E H S) Q X:=by
  intro Q X w ac;unfold askRoom;split
  ·exact⟨.inl ⟨rfl,rfl⟩,ac⟩
  ·exact ac
 refine ap _ ?_;refine Ah (x:=Go.sizeOf e) _ (Da ak ?_);have ae:z.cells.size=pp.n:=by simpa using pp.len Z
 have fin:∀K:Array Value,((Array.range (m.toNat*pp.n)).map (K[· % K.size]!)).toList=(List.replicate m.toNat z.cells.toList).flatten→lp P (do let a ← newRow e ((Array.range (m.toNat*pp.n)).map (K[· % K.size]!));pure (Value.slice (some a) m.toNat m.toNat)) (mkS E H S) (fun a s'=>lp P (pure (Next.value a)) s' (fun nx s'=>match nx with
   | .value v=>JL J Q b n (Aj L d v) ds (.inRegion ops rest::k) cs s'
   | .skip=>JL J Q b n (Aj L d undef) ds (.inRegion ops rest::k) cs s'
   | _=>False) (fun _ _=>False)) (fun _ _=>False):=by
  intro K aq;refine Ah _ _ (Fc hN fun r ag=>?_);rw [(CM ag).1];have aA:((Array.range (m.toNat*pp.n)).map (K[· % K.size]!)).size=m.toNat*pp.n:=by simp
  have:=h r _ ⟨List.replicate m.toNat z.cells.toList,.inr ⟨r,_,rfl,rfl,by simp,by simp,by
   rw [aq,List.take_of_length_le (by rw [La];simp [ae])]⟩,by simp,fun i y us V hu=>by
    have:=List.mem_of_getElem? V;have ar:=List.eq_of_mem_replicate this
    have:=List.mem_of_getElem? hu;have au:=List.eq_of_mem_replicate this
    subst ar au;exact Z⟩ (CM ag).2
  simp only [List.length_replicate] at this;exact this
 split
 ·rename_i av;have ab:m.toNat=0:=by rcases Nat.mul_eq_zero.1 av with h | h <;> omega
  exact fin #[] (by simp [ab])
 ·refine Ah (x:=zeroValue e) _ (D6 al ?_);refine fin z.cells ?_;rw [← ae];exact SH z.cells (by omega) _
theorem H8{α:Type}{pp:Rp α}(O:ops[i]? =some ⟨d,.buildSlice t 0 #[],ty,p,af,g⟩)(hw:Az L ops ⟨d,.buildSlice t 0 #[],ty,p,af,g⟩=some true)(U:Bw b n ⟨d,.buildSlice t 0 #[],ty,p,af,g⟩=true)
  (ht:P.underlying t=some (.slice e)) (V:A0 P e=some pp.n) (hN:NdS E H S)
  (h:∀r seg,OL e pp E (some ⟨r,0,none⟩) 0 seg []→NdS E H (S++ [seg])→JL J Q b n (Aj L d (.slice (some ⟨r,0,none⟩) 0 0)) ds (.inRegion ops rest::k) cs (mkS E H (S++ [seg]))):
  JL J Q b n L ds (.inRegion ops (i::rest)::k) cs (mkS E H S):=by
 refine JL.op O hw U fun ρ Z=>?_;rw [Np];refine Ah _ _ ?_;unfold Instr.buildSlice;refine Ah _ _ (BM ht ?_);refine Ah _ _ (Da V ?_);rw [if_neg (by omega),if_pos (by omega)];refine Ah (x:=pure #[]) _ ?_;simp only [lp,pure,List.map_toArray,List.map_nil,Instr.fill];refine Ah _ _ (Fc hN fun r K=>?_);rw [(CM K).1];exact h r _ ⟨[],.inr ⟨r,_,rfl,rfl,by simp,Nat.le_refl _,by simp⟩,rfl,fun i x ws Y=>by simp at Y⟩ (CM K).2
theorem LsR.rows{α:Type}{pp:Rp α}{a:Option Addr}{c:Nat}{xs:List α}(V:LsR pp E a c xs):∃wss:List (List Value),wss.length=xs.length∧(∀(i:Nat) x ws,xs[i]? =some x→wss[i]? =some ws→pp.r E ws x)∧
  ((xs= []∧∀ad:Addr,a=some ad→ad.spot=none∨c=0)∨∃O off,a=some ⟨O,off,none⟩∧∀(i:Nat) ws,wss[i]? =some ws→At E O (off+i*pp.n) ws):=by
 obtain⟨aa,V⟩:=V;rcases V with⟨rfl,Y⟩ | ⟨O,off,rfl,Z⟩
 ·exact⟨[],rfl,fun i x ws U=>by simp at U,.inl ⟨rfl,Y⟩⟩
 ·have h3:∀i:Fin xs.length,∃ws,pp.r E ws xs[i]∧At E O (off+i*pp.n) ws:=fun i=>Z i xs[i] (List.getElem?_eq_getElem i.2);refine⟨List.ofFn fun i=>Classical.choose (h3 i),by simp,fun i x ws U hw=>?_,.inr ⟨O,off,rfl,fun i ws hw=>?_⟩⟩
  ·have K:i<xs.length:=(List.getElem?_eq_some_iff.1 U).1;simp [K] at hw;subst hw;rw [List.getElem?_eq_getElem K] at U;cases U;exact(Classical.choose_spec (h3 ⟨i,K⟩)).1
  ·have K:i<xs.length:=by have:=(List.getElem?_eq_some_iff.1 hw).1;simpa using this
   simp [K] at hw;subst hw;exact(Classical.choose_spec (h3 ⟨i,K⟩)).2
theorem IT{n:Nat}:∀{wss:List (List Value)},(∀ws∈wss,ws.length=n)→wss.flatten.length=wss.length*n
 | [],_=>by simp
 | ws::wss,h=>by rw [List.flatten_cons,List.length_append,h ws (by simp),IT fun w hw=>h w (List.mem_cons_of_mem _ hw),List.length_cons,Nat.succ_mul,Nat.add_comm]
theorem K0{n:Nat}:∀{wss:List (List Value)},(∀ws∈wss,ws.length=n)→∀{j:Nat} {w:Value},wss.flatten[j]? =some w→∃(i m:Nat) (ws:List Value),wss[i]? =some ws∧ws[m]? =some w∧j=i*n+m
 | [],_,_,_,h=>by simp at h
 | us::wss,O,j,w,h=>by
  have hu:=O us (by simp)
  rw [List.flatten_cons] at h
  rcases Nat.lt_or_ge j us.length with K | K
  ·rw [List.getElem?_append_left K] at h
   exact⟨0,j,us,rfl,h,by simp⟩
  ·rw [List.getElem?_append_right K] at h;obtain⟨i,m,ws,U,V,h3⟩:=K0 (fun ws hw=>O ws (List.mem_cons_of_mem _ hw)) h;exact⟨i+1,m,ws,by simpa using U,V,by rw [Nat.succ_mul];omega⟩
theorem Lh{α:Type}{pp:Rp α}{wss O:List (List Value)}{xs ys:List α}(U:wss.length=xs.length)(h:∀(i:Nat) x ws,xs[i]? =some x→wss[i]? =some ws→pp.r E ws x)(V:∀(i:Nat) x ws,ys[i]? =some x→O[i]? =some ws→pp.r E ws x):
  ∀(i:Nat) y us,(xs++ys)[i]? =some y→(wss++O)[i]? =some us→pp.r E us y:=by
 intro i y us K hu;rcases Nat.lt_or_ge i xs.length with hi | hi
 ·rw [List.getElem?_append_left hi] at K;rw [List.getElem?_append_left (by omega)] at hu;exact h i y us K hu
 ·rw [List.getElem?_append_right hi] at K;rw [List.getElem?_append_right (by omega),U] at hu;exact V _ y us K hu
variable {B0:List (Nat×Obj)}
theorem QI{e t t1:TypeId}{Y ai l c m:Nat}{a:Option Addr}{blk:List (Nat×Obj)}{xs ys:List Value}{i:Nat}{rest:List Nat}{d:Option Tmp}{x y:Operand}{ats:Array TypeId}{ty:TypeId}{p:String}{af:Array Edge}{g:Option (Nat×Bool)}{z:Value}{ax:Option Addr}{cx:Nat}{B1:List (Nat×Obj)}
  (aq:ops[i]? =some ⟨d,.call ⟨.builtin .append,#[x,y],ats⟩,ty,p,af,g⟩) (hw:Az L ops ⟨d,.call ⟨.builtin .append,#[x,y],ats⟩,ty,p,af,g⟩=some true) (ar:Bw b n ⟨d,.call ⟨.builtin .append,#[x,y],ats⟩,ty,p,af,g⟩=true)
  (au:ev L x=some (.slice a l c)) (av:ev L y=some (.slice ax m cx)) (aw:ats[0]? =some t) (ay:ats[1]? =some t1) (ht:P.underlying t=some (.slice e)) (az:P.underlying t1=some (.slice e)) (aA:A0 P e=some Y) (hb:C6 P e=some ai) (aB:zeroOf P e=some z) (aC:z.cells.size=Y)
  (aD:0<ai) (aE:ai≤64) (aF:l+m≤2 ^ 40) (aG:∀w∈ys,Ba w=true) (hg:GS e Y a l c blk xs) (hN:Nd E H (B0++blk++B1)) (hs:EM (mk E H (B0++blk++B1)) (.slice ax m cx) Y ys)
  (h:∀an ag aj,GS e Y an (l+m) ag aj (xs++ys)→Nd E H (B0++aj)→JL J Q b n (Aj L d (.slice an (l+m) ag)) ds (.inRegion ops rest::k) cs (mk E H (B0++aj))):
  JL J Q b n L ds (.inRegion ops (i::rest)::k) cs (mk E H (B0++blk++B1)):=by
 refine JL.op aq hw ar fun ρ ao=>?_;rw [IS,ao x _ au,ao y _ av];have aH:Kk (B0++blk++B1) B0.length e Y a l c xs:=by
  rcases hg with⟨K,V,h3,ab,Z⟩ | ⟨ak,f,K,V,h3,ab,Z⟩
  ·exact .inl ⟨K,V,h3,Z⟩
  ·refine .inr ⟨ak,f,K,?_,h3,ab,Z⟩;subst V;simp
 have hlen:=hg.length;refine Ah _ _ (Ll (pl:=B0.length) aw ay az ht aA hb aB aC hN aH hs aG aD aF aE ?_ ?_ ?_)
 ·
  intro ak f O ah aN aO aI al am aa;rcases hg with⟨K,_⟩ | ⟨U,f0,K,V,h3,ab,Z⟩
  ·rw [K] at ah;cases ah
  ·subst V;have aJ:U=ak:=by rw [K] at ah;simpa using ah
   subst aJ;have aK:(B0++ [(U,Obj.cells f0 e (0,0))]++B1).set B0.length (U,.cells O e (0,0))=B0++ [(U,.cells O e (0,0))]++B1:=by
    rw [List.append_assoc,List.append_assoc];exact FH _ _ _ _
   rw [aK] at aa ⊢;have ac:Nd E H (B0++ [(U,.cells O e (0,0))]):=F6.Nd.left aa;refine JL.drop (B0++ [(U,.cells O e (0,0))]) (fun p ae=>?_) aa (h a c _ (.inr ⟨U,O,K,rfl,al,aI,am.symm⟩) ac);exact List.mem_iff_getElem?.1 (List.mem_append_left _ ae)
 ·intro ap hm;rcases hg with⟨K,V,h3,ab,Z⟩ | ⟨U,f0,K,_⟩
  ·subst hm;have aL:ys= []:=by
    cases ax with
    | none=>exact hs.2
    | some ad=>have:=hs.2.1;simp at this;exact this
   subst V ab Z aL;have ac:Nd E H (B0++ []):=F6.Nd.left hN;exact JL.drop (B0++ []) (fun p ae=>List.mem_iff_getElem?.1 (List.mem_append_left _ ae)) hN (h none 0 [] (by simpa using GS.nil) ac)
  ·rw [K] at ap;cases ap
 ·
  intro r O ag aM al am aa;have ac:Nd E H (B0++ [(r,.cells O e (0,0))]):=F6.Nd.pick aa;refine JL.drop (B0++ [(r,.cells O e (0,0))]) (fun p ae=>?_) aa (h (some ⟨r,0,none⟩) ag _ (.inr ⟨r,O,rfl,rfl,al,aM,am.symm⟩) ac);refine List.mem_iff_getElem?.1 ?_;rcases List.mem_append.1 ae with q | q
  ·simp [q]
  ·exact List.mem_append_right _ q
theorem H0{α:Type}{pp:Rp α}{t1:TypeId}{ab c cx:Nat}{a ax:Option Addr}{seg:Seg}{xs ys ac:List α}{ats:Array TypeId}{z:Value}(j:Nat)(V:Cj xs ys=some ac)
  (am:ops[i]? =some ⟨d,.call ⟨.builtin .append,#[x,y],ats⟩,ty,p,af,g⟩) (hw:Az L ops ⟨d,.call ⟨.builtin .append,#[x,y],ats⟩,ty,p,af,g⟩=some true) (an:Bw b n ⟨d,.call ⟨.builtin .append,#[x,y],ats⟩,ty,p,af,g⟩=true)
  (ao:ev L x=some (.slice a xs.length c)) (ap:ev L y=some (.slice ax ys.length cx)) (aq:ats[0]? =some t) (ar:ats[1]? =some t1) (ht:P.underlying t=some (.slice e)) (au:P.underlying t1=some (.slice e)) (av:A0 P e=some pp.n) (hb:C6 P e=some ab) (aw:zeroOf P e=some z) (ay:z.cells.size=pp.n)
  (az:0<ab) (aA:ab≤64) (hg:OL e pp E a c seg xs) (ag:LsR pp E ax cx ys) (hN:NdS E H S) (ah:S[j]? =some seg)
  (h:∀Y Z seg',OL e pp E Y Z seg' ac→NdS E H (S.set j seg')→JL J Q b n (Aj L d (.slice Y ac.length Z)) ds (.inRegion ops rest::k) cs (mkS E H (S.set j seg'))):
  JL J Q b n L ds (.inRegion ops (i::rest)::k) cs (mkS E H S):=by
 unfold Cj at V;split at V
 rotate_left
 ·cases V
 rename_i aB;cases V;obtain⟨wss,hg,ai,aC⟩:=hg;obtain⟨aD,aj⟩:=D8 hN ah;obtain⟨aa,O,ae,U⟩:=ag.rows;have ak:=Ga O ae;rw [aD];have aE:∀w∈aa.flatten,Ba w=true:=fun w hw=>by
  obtain⟨us,aF,hw⟩:=List.mem_flatten.1 hw;obtain⟨q,K⟩:=List.mem_iff_getElem?.1 aF;have aG:q<ys.length:=by rw [← O];exact(List.getElem?_eq_some_iff.1 K).1
  exact pp.one (ae q _ us (List.getElem?_eq_getElem aG) K) w hw
 have hlen:(xs++ys).length=xs.length+ys.length:=by simp
 have al:EM (mk E H ((S.set j []).flatten++seg)) (.slice ax ys.length cx) pp.n aa.flatten:=by
  rcases U with⟨U,aP⟩ | ⟨aQ,off,rfl,U⟩
  ·subst U;have:aa= []:=List.eq_nil_of_length_eq_zero O;subst this;cases ax with
   | none=>exact⟨rfl,rfl⟩
   | some ad=>exact⟨.inr rfl,by simp,Nat.zero_le _,fun q w K=>by simp at K⟩
  ·refine⟨.inl rfl,by rw [IT ak,O],ag.1,fun q w K=>?_⟩;obtain⟨q1,m,ws,aH,aI,aJ⟩:=K0 ak K;have:=(U q1 ws aH).cell (H:=H) (B:=(S.set j []).flatten++seg) aI;subst aJ;rw [← Nat.add_assoc];exact this
 have aK:(S.set j []).flatten++seg=(S.set j []).flatten++seg++ []:=(List.append_nil _).symm;rw [aK] at aj al ⊢;refine QI am hw an ao ap aq ar ht au av hb aw ay az aA aB aE hg aj al fun Y Z aL aM aN=>?_;obtain⟨h3,aO⟩:=Fh ah aN;rw [h3];have:=h Y Z aL ⟨wss++aa,by rw [hlen,List.flatten_append];exact aM,by simp [ai,O],Lh ai aC ae⟩ aO;rw [hlen] at this;exact this
end
end Pal
namespace Pal
open Go Go.Conc
section
variable {P:Program}{J:Judge P}{Q:Goroutine→St→Prop}{b:Frame}{n:Nat}{ds:List Deferred}{ops:Array Oper}{k:List Item}{cs:List Frame}{m fuel:Nat}{D:Nat→Bool}{listed:Array Bool}{L L':Env}{s:St}{E E' H:LH}{S:List Seg}
variable {d:Option Tmp}{x y:Operand}{t u ty e:TypeId}{p:String}{af:Array Edge}{g:Option (Nat×Bool)}{v:Value}{i:Nat}{rest:List Nat}{kd:IntKind}
theorem JALweak_(h:Sub L' L)(k':JAL J Q b n ds ops k cs m D fuel listed L' s):JAL J Q b n ds ops k cs m D fuel listed L s:=fun T K=>k' T (K.sub h)
theorem JALjoin_{K:Nat}{O:Array Bool}(fuel:Nat)(listed:Array Bool)(I:Env→St→Prop)(U:∀L s,I L s→JAL J Q b n ds ops k cs m D fuel listed L s)(h:(∀L s,I L s→JAL J Q b n ds ops k cs m D fuel listed L s)→JAL J Q b n ds ops k cs m D K O L s):JAL J Q b n ds ops k cs m D K O L s:=h U
end
def FW(t:TypeId)(v:Value):Option (Int×Int)→Prop
 | none=>v= .nilIface
 | some (c,a)=>v= .iface t (.agg #[iV c,iV a])
def HB{α:Type}(p:Rp α)(E:LH)(v:Value):Option α→Prop
 | none=>v= .pointer none
 | some x=>∃K o us,v= .pointer (some ⟨K,o,none⟩)∧At E K o us∧p.r E us x
theorem HB.moq{α:Type}{p:Rp α}{E E':LH}{v:Value}{d:Option α}(h:HB p E v d)(hle:Le E E'):HB p E' v d:=by
 cases d with
 | none=>exact h
 | some x=>obtain⟨K,o,us,O,U,h3⟩:=h;exact⟨K,o,us,O,U.moq hle,p.moq hle h3⟩
theorem At.tail{E:LH}{K o:Nat}{l ws:List Value}(h:At E K o (l++ws)):At E K (o+l.length) ws:=by
 obtain⟨f,e,fr,O,U⟩:=h;refine⟨f,e,fr,O,fun j w V=>?_⟩;rw [Nat.add_assoc];refine U _ _ ?_;rw [List.getElem?_append_right (by omega)];rw [show l.length+j - l.length=j by omega];exact V
theorem PY{α:Type}{kk:Nat}{pp:Rp α}{E:LH}{K o:Nat}{ws:List Value}{xs:List α}{m:Int}{x:α}(U:(rA kk pp).r E ws xs)(h:At E K o ws)(hm:ix xs m=some x):∃us,pp.r E us x∧At E K (o+m.toNat*pp.n) us∧0≤m∧m<kk:=by
 obtain⟨V,wss,rfl,Y,O⟩:=U;obtain⟨m,rfl,hm⟩:=FK hm;have ac:m<xs.length:=(List.getElem?_eq_some_iff.1 hm).1;have hw:wss[m]? =some wss[m]:=List.getElem?_eq_getElem (by omega);refine⟨wss[m],O m x _ hm hw,?_,by omega,by omega⟩;obtain⟨f,e,fr,Z,aa⟩:=h;refine⟨f,e,fr,Z,fun j w ab=>?_⟩;rw [Nat.add_assoc];exact aa _ _ (GY (Ga (Y.trans V.symm) O) hw j w ab)
section
variable {P:Program}{s:St}{ρ:Operand→Value}{x y z:Operand}{d:Option Tmp}{t u ty e:TypeId}{p:String}{af:Array Edge}{g:Option (Nat×Bool)}{v v':Value}
theorem Nq{ms:Array (String×TypeId)}{K:TypeId}{o:Option (Int×Int)}{n:Nat}(O:P.underlying t=some (.interface ms))(he:FW K v o){Q:Bool→St→Prop}{X:Halt→St→Prop}(k:Q o.isNone s):lp P (Op.equalIn (n+1) t v .nilIface) s Q X:=by
 unfold Op.equalIn;refine Ah _ _ (BM O ?_);cases o with
 | none=>obtain rfl:v= .nilIface:=he;exact k
 | some q=>obtain⟨c,a⟩:=q;obtain rfl:v= .iface K (.agg #[iV c,iV a]):=he;exact k
theorem Lt{ms:Array (String×TypeId)}{K:TypeId}{o:Option (Int×Int)}(O:P.underlying t=some (.interface ms))(he:FW K v o)(U:ρ x=v)(V:ρ (.const .nilIface)= .nilIface):Yl P ⟨d,.binOp .neq t x (.const .nilIface) u,ty,p,af,g⟩ ρ s (.bool o.isSome):=by
 refine Dl (sm:=do eqGuard .neq t x (.const .nilIface) (ρ x) (ρ (.const .nilIface));binOp .neq t (ρ x) (ρ (.const .nilIface))) rfl ?_
 rw [U,V];have hg:lp P (eqGuard .neq t x (.const .nilIface) v .nilIface) s (fun _ s'=>s'=s) (fun _ _=>False):=by
  cases o with
  | none=>obtain rfl:v= .nilIface:=he;simp [eqGuard,lp,pure]
  | some q=>obtain⟨c,a⟩:=q;obtain rfl:v= .iface K (.agg #[iV c,iV a]):=he;simp [eqGuard,lp,pure]
 refine Ah _ _ (BS _ hg ?_ (fun _ _ h=>h));rintro _ _ rfl;have hb:binOp .neq t v .nilIface=(do pure (.bool (!(← Op.equal t v .nilIface)))):=by
  cases o with
  | none=>obtain rfl:v= .nilIface:=he;rfl
  | some q=>obtain⟨c,a⟩:=q;obtain rfl:v= .iface K (.agg #[iV c,iV a]):=he;rfl
 rw [hb];refine Ah (x:=Op.equal t v .nilIface) _ ?_;unfold Op.equal Op.maxDepth;refine Nq O he ?_;refine⟨?_,rfl⟩;cases o <;> rfl
theorem N3{ms:Array (String×TypeId)}{K:TypeId}{o:Option (Int×Int)}(O:P.underlying t=some (.interface ms))(he:FW K v o)(U:ρ x=v)(V:ρ (.const .nilIface)= .nilIface):Yl P ⟨d,.binOp .eql t x (.const .nilIface) u,ty,p,af,g⟩ ρ s (.bool o.isNone):=by
 refine Dl (sm:=do eqGuard .eql t x (.const .nilIface) (ρ x) (ρ (.const .nilIface));binOp .eql t (ρ x) (ρ (.const .nilIface))) rfl ?_
 rw [U,V];have hg:lp P (eqGuard .eql t x (.const .nilIface) v .nilIface) s (fun _ s'=>s'=s) (fun _ _=>False):=by
  cases o with
  | none=>obtain rfl:v= .nilIface:=he;simp [eqGuard,lp,pure]
  | some q=>obtain⟨c,a⟩:=q;obtain rfl:v= .iface K (.agg #[iV c,iV a]):=he;simp [eqGuard,lp,pure]
 refine Ah _ _ (BS _ hg ?_ (fun _ _ h=>h));rintro _ _ rfl;have hb:binOp .eql t v .nilIface=(do pure (.bool (← Op.equal t v .nilIface))):=by
  cases o with
  | none=>obtain rfl:v= .nilIface:=he;rfl
  | some q=>obtain⟨c,a⟩:=q;obtain rfl:v= .iface K (.agg #[iV c,iV a]):=he;rfl
 rw [hb];refine Ah (x:=Op.equal t v .nilIface) _ ?_;unfold Op.equal Op.maxDepth;refine Nq O he ?_;refine⟨?_,rfl⟩
 rfl
end
end Pal
namespace Pal
open Go Go.Conc
section
variable {P:Program}{J:Judge P}{Q:Goroutine→St→Prop}{b:Frame}{n:Nat}{ds:List Deferred}{ops:Array Oper}{k:List Item}{cs:List Frame}{L:Env}{E H:LH}{S:List Seg}
variable {d:Option Tmp}{x y:Operand}{t u ty e:TypeId}{p:String}{af:Array Edge}{g:Option (Nat×Bool)}{i:Nat}{rest:List Nat}{kd:IntKind}
theorem Lz{α:Type}{pp:Rp α}{kk K o:Nat}{l ws:List Value}{xs:List α}{xv:α}{m:Int}(U:At E K o (l++ws))(V:(rA kk pp).r E ws xs)(hm:ix xs m=some xv)
  (Y:ops[i]? =some ⟨d,.indexAddr t x y,ty,p,af,g⟩) (hw:Az L ops ⟨d,.indexAddr t x y,ty,p,af,g⟩=some true) (Z:Bw b n ⟨d,.indexAddr t x y,ty,p,af,g⟩=true)
  (aa:ev L x=some (.pointer (some ⟨K,o+l.length,none⟩))) (ab:ev L y=some (.int kd m)) (ht:P.underlying t=some (.array kk e)) (ac:A0 P e=some pp.n)
  (h:∀o' us,pp.r E us xv→At E K o' us→JL J Q b n (Aj L d (.pointer (some ⟨K,o',none⟩))) ds (.inRegion ops rest::k) cs (mkS E H S)):
  JL J Q b n L ds (.inRegion ops (i::rest)::k) cs (mkS E H S):=by
 obtain⟨us,ae,ag,h3,ah⟩:=PY V U.tail hm;refine Ay (v:= .pointer (some ⟨K,o+l.length+m.toNat*pp.n,none⟩)) Y hw Z (fun ρ O=>?_) (h _ us ae ag);have:=M4 (P:=P) (s:=mkS E H S) (d:=d) (ty:=ty) (p:=p) (af:=af) (g:=g) ht ac (O x _ aa) (O y _ ab) ⟨h3,ah⟩;rw [AS rfl] at this;exact this
end
end Pal
namespace Pal
open Go Go.Conc
section
variable {P:Program}{s:St}{ρ:Operand→Value}{x y z:Operand}{d:Option Tmp}{t u ty e:TypeId}{p:String}{af:Array Edge}{g:Option (Nat×Bool)}{v v':Value}
theorem Hb{t:TypeId}{cells:Array Value}{off:Nat}{v:Value}(ht:Ce P t=some false)(K:cells[off]? =some v){Q:Value→St→Prop}{X:Halt→St→Prop}(k:Q v s):lp P (part t cells off) s Q X:=by
 unfold part;refine Ah _ _ (HX ht ?_);simp only [Bool.false_eq_true,if_false,K];exact k
theorem N9{n:Nat}{t:TypeId}{a b:Int}(ht:P.underlying t=some (.int .i64)){Q:Bool→St→Prop}{X:Halt→St→Prop}(k:Q (a==b) s):lp P (Op.equalIn (n+1) t (iV a) (iV b)) s Q X:=by
 unfold Op.equalIn;refine Ah _ _ (BM ht ?_);simp only [if_true];exact k
theorem TW{n:Nat}{f1 f2:Field}{a b O U:Int}(ht:P.underlying t=some (.struct #[f1,f2]))(hs:P.stoodInHeld t=false)(n1:f1.name≠ "_")(n2:f2.name≠ "_")(u1:P.underlying f1.type=some (.int .i64))(u2:P.underlying f2.type=some (.int .i64))(o1:f1.offset=0)(o2:f2.offset=1)
  {Q:Bool→St→Prop} {X:Halt→St→Prop} (k:Q (decide (a=O∧b=U)) s):lp P (Op.equalIn (n+2) t (.agg #[iV a,iV b]) (.agg #[iV O,iV U])) s Q X:=by
 unfold Op.equalIn;refine Ah _ _ (BM ht ?_);refine Ah (x:=program) _ ?_;show lp P (if P.stoodInHeld t=true then _ else _) s _ _
 rw [if_neg (by rw [hs];exact Bool.false_ne_true)];have a1:Ce P f1.type=some false:=by unfold Ce;rw [u1]
 have Z:Ce P f2.type=some false:=by unfold Ce;rw [u2]
 let aa:Field→Option Bool×Unit→Sem (ForInStep (Option Bool×Unit)):=fun f _=>if f.name≠ "_" then do
   if !(← Op.equalIn (n+1) f.type (← part f.type #[iV a,iV b] f.offset) (← part f.type #[iV O,iV U] f.offset)) then pure (ForInStep.done (some false,())) else pure (ForInStep.yield (none,()))
  else pure (ForInStep.yield (none,()))
 have ab:∀{K:ForInStep (Option Bool×Unit)→St→Prop} (o:Option Bool×Unit),K (if a=O then .yield (none,()) else .done (some false,())) s→lp P (aa f1 o) s K X:=by
  intro K o V;show lp P (if f1.name≠ "_" then _ else _) s K X
  rw [if_pos n1,o1];refine Ah _ _ (Hb (v:=iV a) a1 rfl ?_);refine Ah _ _ (Hb (v:=iV O) a1 rfl ?_);refine Ah _ _ (N9 u1 ?_);by_cases h:a=O
  ·subst h;simpa [lp,pure] using V
  ·rw [if_neg h] at V;simpa [lp,pure,h] using V
 have ac:∀{K:ForInStep (Option Bool×Unit)→St→Prop} (o:Option Bool×Unit),K (if b=U then .yield (none,()) else .done (some false,())) s→lp P (aa f2 o) s K X:=by
  intro K o V;show lp P (if f2.name≠ "_" then _ else _) s K X
  rw [if_pos n2,o2];refine Ah _ _ (Hb (v:=iV b) Z rfl ?_);refine Ah _ _ (Hb (v:=iV U) Z rfl ?_);refine Ah _ _ (N9 u2 ?_);by_cases h:b=U
  ·subst h;simpa [lp,pure] using V
  ·rw [if_neg h] at V;simpa [lp,pure,h] using V
 dsimp only;rw [← Array.forIn_toList];simp only [List.forIn_cons,List.forIn_nil];refine Ah _ _ (Ah _ _ (ab (none,()) ?_));by_cases h:a=O
 ·rw [if_pos h];refine Ah _ _ (ac (none,()) ?_);by_cases Y:b=U
  ·rw [if_pos Y];simpa [lp,pure,h,Y] using k
  ·rw [if_neg Y];simpa [lp,pure,h,Y] using k
 ·rw [if_neg h];simpa [lp,pure,h] using k
structure VP (P:Program) (t:TypeId) (f1 f2:Field):Prop where
 ht:P.underlying t=some (.struct #[f1,f2])
 hs:P.stoodInHeld t=false
 hg:P.eqGuardType P.depth t=false
 n1:f1.name≠ "_"
 n2:f2.name≠ "_"
 u1:P.underlying f1.type=some (.int .i64)
 u2:P.underlying f2.type=some (.int .i64)
 o1:f1.offset=0
 o2:f2.offset=1
def P5(P:Program)(t:TypeId):Prop:=∃f1 f2,VP P t f1 f2
theorem Nh{o:BinOp}{c K:Array Value}(O:o= .eql∨o= .neq)(hg:P.eqGuardType P.depth t=false){Q:Unit→St→Prop}{X:Halt→St→Prop}(k:Q () s):lp P (eqGuard o t x y (.agg c) (.agg K)) s Q X:=by
 rcases O with rfl | rfl <;> (simp [eqGuard,lp,bind,Sem.bind,program,pure,hg];exact k)
theorem SD{a b K O:Int}(U:P5 P t)(V:ρ x= .agg #[iV a,iV b])(Y:ρ y= .agg #[iV K,iV O]):Yl P ⟨d,.binOp .neq t x y u,ty,p,af,g⟩ ρ s (.bool (decide (¬(a=K∧b=O)))):=by
 obtain⟨f1,f2,h⟩:=U;refine Dl (sm:=do eqGuard .neq t x y (ρ x) (ρ y);binOp .neq t (ρ x) (ρ y)) rfl ?_
 rw [V,Y];refine Ah _ _ (Nh (.inr rfl) h.hg ?_);have hb:binOp .neq t (.agg #[iV a,iV b]) (.agg #[iV K,iV O])=(do pure (.bool (!(← Op.equal t (.agg #[iV a,iV b]) (.agg #[iV K,iV O]))))):=rfl
 rw [hb];refine Ah (x:=Op.equal t _ _) _ ?_;unfold Op.equal Op.maxDepth;exact TW h.ht h.hs h.n1 h.n2 h.u1 h.u2 h.o1 h.o2 ⟨by simp,rfl⟩
end
end Pal
namespace Pal
open Go Go.Conc
section
variable {P:Program}(J:Judge P)(Q:Goroutine→St→Prop)(b:Frame)(n:Nat)(ds:List Deferred)(ops:Array Oper)(k:List Item)(cs:List Frame)(m:Nat)(D:Nat→Bool)
def Take(fuel:Nat)(listed:Array Bool)(L:Env)(s:St)(i:Nat):Prop:=
 ∃o,ops[i]? =some o∧(!B5 o.op)=true∧AQ n o.dst=true∧Az L ops o=some true∧∀ρ,CN L ρ→lp P (execOp ρ o) (AV D s) (fun nx s'=>match nx with
  | .value v=>JAL J Q b n ds ops k cs m D fuel (AF listed i) (Aj L o.dst v) (Bu D s s')
  | .skip=>JAL J Q b n ds ops k cs m D fuel (AF listed i) (Aj L o.dst undef) (Bu D s s')
  | .enter f args=>∃R,Co J f args (Bu D s s') R∧∀v K,R v K→K.q=false∧(∀x o,(AV D s).E x=some o→(AV D K).E x=some o)∧JAL J Q b n ds ops k cs m D fuel (AF listed i) (Aj L o.dst v) K
  | _=>False) (fun _ _=>False)
end
section
variable {P:Program}{J:Judge P}{Q:Goroutine→St→Prop}{b:Frame}{n:Nat}{ds:List Deferred}{ops:Array Oper}{k:List Item}{cs:List Frame}{m fuel:Nat}{D:Nat→Bool}{listed:Array Bool}{L:Env}{s:St}{E E' H:LH}{S:List Seg}
variable {d:Option Tmp}{x y:Operand}{t u ty e:TypeId}{p:String}{af:Array Edge}{g:Option (Nat×Bool)}{v:Value}{i:Nat}{kd:IntKind}
theorem MY(U:s.q=false){l:List Nat}(K:Region.ready .any ops listed=l)(V:l≠ [])(h:∀i∈l,Take J Q b n ds ops k cs m D fuel listed L s i):JAL J Q b n ds ops k cs m D (fuel+1) listed L s:=
 NU U (by rw [K];exact V) fun i hi o O=>by
  rw [K] at hi
  obtain⟨o',Y,Z,h3,aa,ab⟩:=h i hi
  obtain rfl:o'=o:=by rw [Y] at O;exact Option.some.inj O
  exact⟨Z,h3,true,aa,fun e=>(by cases e),fun _=>ab⟩
theorem JG.one(K:s.q=false)(O:Region.ready .any ops listed= [i])(h:Take J Q b n ds ops k cs m D fuel listed L s i):JAL J Q b n ds ops k cs m D (fuel+1) listed L s:=
 MY K O (by simp) (by simpa using h)
theorem JGtwo_{i j:Nat}(K:s.q=false)(O:Region.ready .any ops listed= [i,j])(hi:Take J Q b n ds ops k cs m D fuel listed L s i)(U:Take J Q b n ds ops k cs m D fuel listed L s j):JAL J Q b n ds ops k cs m D (fuel+1) listed L s:=
 MY K O (by simp) (by intro q K;simp at K;rcases K with rfl | rfl <;> assumption)
def plus(E:LH)(K:Nat)(o:Obj):LH:=fun x=>if x=K then Option.some o else E x
theorem Tt{jp K:Nat}{o:Obj}(hN:NdS E H S)(Z:S[jp]? =Option.some [(K,o)]):AV (Ak [K]) (mkS E H S)=mkS (plus E K o) H (S.set jp [])∧NdS (plus E K o) H (S.set jp []):=by
 obtain⟨ab,Y⟩:=D8 hN Z;have h3:=Nd.iff.1 Y;have aj:E K=Option.none:=(h3.2 (K,o) (by simp)).1;have ac:H K=Option.none:=(h3.2 (K,o) (by simp)).2;have aa:∀q∈(S.set jp []).flatten,q.1≠K:=fun q U e=>by
  have:=h3.1;rw [List.map_append,List.nodup_append] at this;exact this.2.2 q.1 (List.mem_map_of_mem U) K (by simp) e
 have ae:(mkS E H S).get K=Option.some o:=C5 (i:=0) hN Z rfl;have ag:∀x,x≠K→AB ((S.set jp []).flatten++ [(K,o)]) H x=AB (S.set jp []).flatten H x:=fun x O=>by
  rw [show AB ((S.set jp []).flatten++ [(K,o)]) H=AB ([(K,o)]++(S.set jp []).flatten) H from HN Y List.perm_append_comm];simp [AB,O]
 refine⟨?_,?_⟩
 ·unfold AV;have ah:(fun x=>if Ak [K] x=true then(mkS E H S).get x else(mkS E H S).E x)=plus E K o:=by
   funext x;unfold plus;by_cases O:x=K
   ·subst O;simp [Ak,ae]
   ·simp [Ak,O];rfl
  have ai:(fun x=>if Ak [K] x=true then Option.none else(mkS E H S).H x)=AB (S.set jp []).flatten H:=by
   funext x;by_cases O:x=K
   ·subst O;simp [Ak];rw [HQ aa,ac]
   ·simp only [Ak,List.contains_cons,List.contains_nil,Bool.or_false,beq_iff_eq,if_neg O];rw [ab];exact ag x O
  rw [ah,ai];rfl
 ·have V:Nd E H (S.set jp []).flatten:=F6.Nd.left Y;show Nd _ H (S.set jp []).flatten;rw [Nd.iff] at V ⊢;exact⟨V.1,fun q U=>⟨by unfold plus;rw [if_neg (aa q U)];exact(V.2 q U).1,(V.2 q U).2⟩⟩
theorem RE{jp K:Nat}{o:Obj}{S':List Seg}(hN:NdS E H S)(ag:S[jp]? =Option.some [(K,o)])(ah:NdS (plus E K o) H S')(Y:S'[jp]? =Option.some []):Bu (Ak [K]) (mkS E H S) (mkS (plus E K o) H S')=mkS E H (S'.set jp [(K,o)])∧NdS E H (S'.set jp [(K,o)]):=by
 obtain⟨ai,ab⟩:=D8 hN ag;have h3:=Nd.iff.1 ab;have aj:E K=Option.none:=(h3.2 (K,o) (by simp)).1;have ak:H K=Option.none:=(h3.2 (K,o) (by simp)).2;have Z:(S'.set jp []).flatten=S'.flatten:=by
  have:S'.set jp []=S':=by
   apply List.ext_getElem?;intro q;rw [List.getElem?_set];split
   ·rename_i e;subst e;rw [Y,if_pos (List.getElem?_eq_some_iff.1 Y).1]
   ·rfl
  rw [this]
 have V:=Nd.iff.1 (show Nd _ H S'.flatten from ah);have ac:∀q∈S'.flatten,q.1≠K:=fun q O e=>by
  have:=(V.2 q O).1;unfold plus at this;rw [if_pos e] at this;cases this
 have aa:Nd E H ((S'.set jp []).flatten++ [(K,o)]):=by
  rw [Z,Nd.iff,List.map_append,List.nodup_append];refine⟨⟨V.1,by simp,fun x U y ae e=>?_⟩,fun q O=>?_⟩
  ·obtain⟨q,O,rfl⟩:=List.mem_map.1 U;simp at ae;subst ae;exact ac q O e
  ·rcases List.mem_append.1 O with O | O
   ·refine⟨?_,(V.2 q O).2⟩;have:=(V.2 q O).1;unfold plus at this
    rwa [if_neg (ac q O)] at this
   ·simp at O;subst O;exact⟨aj,ak⟩
 obtain⟨h6,al⟩:=Fh (seg':= [(K,o)]) Y aa;refine⟨?_,al⟩;rw [← h6,Z];unfold Bu mkS mk;congr 1
 ·funext x;show(if Ak [K] x=true then E x else plus E K o x)=E x
  by_cases U:x=K
  ·subst U;simp [Ak]
  ·simp [Ak,U,plus]
 ·funext x;show(if Ak [K] x=true then(mkS E H S).H x else AB S'.flatten H x)=AB (S'.flatten++ [(K,o)]) H x
  have am:AB (S'.flatten++ [(K,o)]) H=AB ([(K,o)]++S'.flatten) H:=HN (by rw [Z] at aa;exact aa) List.perm_append_comm;rw [am];by_cases U:x=K
  ·subst U;simp only [Ak,List.contains_cons,beq_self_eq_true,Bool.true_or,if_true,List.cons_append,List.nil_append,AB];rw [ai];show AB ((S.set jp []).flatten++ [(x,o)]) H x=_;rw [show AB ((S.set jp []).flatten++ [(x,o)]) H=AB ([(x,o)]++(S.set jp []).flatten) H from HN ab List.perm_append_comm];simp [AB]
  ·simp [Ak,U,AB]
end
end Pal
namespace Pal
open Go Go.Conc
theorem OL.VT{α:Type}{e:TypeId}{pp:Rp α}{E0 E H:LH}{S:List Seg}{a:Option Addr}{c j:Nat}{seg:Seg}{xs:List α}(hg:OL e pp E0 a c seg xs)(hN:NdS E H S)(V:S[j]? =some seg):∃wss:List (List Value),EM (mkS E H S) (.slice a xs.length c) pp.n wss.flatten∧wss.length=xs.length∧∀(i:Nat) x ws,xs[i]? =some x→wss[i]? =some ws→pp.r E0 ws x:=by
 obtain⟨wss,hg,Y,Z⟩:=hg;refine⟨wss,?_,Y,Z⟩;rcases hg with⟨rfl,aa,h3,U,K⟩ | ⟨ab,f,rfl,rfl,h3,U,K⟩
 ·exact⟨aa,K⟩
 ·have hle:xs.length*pp.n≤f.size:=by rw [h3];exact Nat.mul_le_mul_right _ U
  refine⟨.inl rfl,by rw [K];simp [hle],U,fun q w O=>?_⟩;rw [K,List.getElem?_take] at O;split at O
  ·refine Cn hN V ?_;simpa using O
  ·cases O
section
variable {P:Program}{E H:LH}{S:List Seg}{d:Option Tmp}{x y:Operand}{t ty e:TypeId}{p:String}{af:Array Edge}{g:Option (Nat×Bool)}
theorem OG{E0:LH}{ρ:Operand→Value}{K:Next→St→Prop}{α:Type}{pp:Rp α}{t1:TypeId}{aj c cx:Nat}{a ax:Option Addr}{seg ar:Seg}{xs ys ak:List α}{ats:Array TypeId}{z:Value}(j aA:Nat)(ae:Cj xs ys=some ak)
  (aB:ρ x= .slice a xs.length c) (aC:ρ y= .slice ax ys.length cx) (aD:ats[0]? =some t) (aE:ats[1]? =some t1) (ht:P.underlying t=some (.slice e)) (aF:P.underlying t1=some (.slice e)) (aG:A0 P e=some pp.n) (hb:C6 P e=some aj) (aH:zeroOf P e=some z) (aI:z.cells.size=pp.n)
  (aJ:0<aj) (aK:aj≤64) (hg:OL e pp E0 a c seg xs) (aL:OL e pp E0 ax cx ar ys) (hN:NdS E H S) (au:S[j]? =some seg) (aM:S[aA]? =some ar)
  (h:∀U O g seg',OL e pp E0 U O seg' ak→NdS E H (S.set j (g++seg'))→K (.value (.slice U ak.length O)) (mkS E H (S.set j (g++seg')))):
  lp P (execOp ρ ⟨d,.call ⟨.builtin .append,#[x,y],ats⟩,ty,p,af,g⟩) (mkS E H S) K (fun _ _=>False):=by
 unfold Cj at ae;split at ae
 rotate_left
 ·cases ae
 rename_i aN;cases ae;obtain⟨ag,av,ah,al⟩:=aL.VT hN aM;obtain⟨wss,hg,aw,aO⟩:=hg;obtain⟨aP,am⟩:=D8 hN au;have aQ:=Ga ah al;have aR:∀w∈ag.flatten,Ba w=true:=fun w hw=>by
  obtain⟨us,aS,hw⟩:=List.mem_flatten.1 hw;obtain⟨q,ay⟩:=List.mem_iff_getElem?.1 aS;have aT:q<ys.length:=by rw [← ah];exact(List.getElem?_eq_some_iff.1 ay).1
  exact pp.one (al q _ us (List.getElem?_eq_getElem aT) ay) w hw
 have hlen:(xs++ys).length=xs.length+ys.length:=by simp
 rw [aP] at av ⊢;rw [IS,aB,aC];have an:∀{U O seg'},GS e pp.n U (xs.length+ys.length) O seg' (wss.flatten++ag.flatten)→OL e pp E0 U O seg' (xs++ys):=fun aU=>
  ⟨wss++ag,by rw [hlen,List.flatten_append];exact aU,by simp [aw,ah],Lh aw aO al⟩
 have fin:∀U O g seg',OL e pp E0 U O seg' (xs++ys)→Nd E H ((S.set j []).flatten++(g++seg'))→K (.value (.slice U (xs.length+ys.length) O)) (mk E H ((S.set j []).flatten++(g++seg'))):=fun U O g seg' aV V=>by
  obtain⟨h3,aW⟩:=Fh au V;rw [h3];have:=h U O g seg' aV aW;rw [hlen] at this;exact this
 have aX:Kk ((S.set j []).flatten++seg) (S.set j []).flatten.length e pp.n a xs.length c wss.flatten:=by
  rcases hg with⟨q1,q2,ac,Z,aa⟩ | ⟨ao,f,q1,q2,ac,Z,aa⟩
  ·exact .inl ⟨q1,q2,ac,aa⟩
  ·refine .inr ⟨ao,f,q1,?_,ac,Z,aa⟩;subst q2;simp
 refine Ah _ _ (Ll (pl:=(S.set j []).flatten.length) aD aE aF ht aG hb aH aI am aX av aR aJ aN aK ?_ ?_ ?_)
 ·intro ao f Y ai a6 a8 aY ap aq V;rcases hg with⟨q1,_⟩ | ⟨ab,f0,q1,q2,ac,Z,aa⟩
  ·rw [q1] at ai;cases ai
  ·subst q2;have aZ:ab=ao:=by rw [q1] at ai;simpa using ai
   subst aZ;have a0:((S.set j []).flatten++ [(ab,Obj.cells f0 e (0,0))]).set (S.set j []).flatten.length (ab,.cells Y e (0,0))=(S.set j []).flatten++ [(ab,.cells Y e (0,0))]:=FH _ _ _ _;rw [a0] at V ⊢;exact fin a c [] _ (an (.inr ⟨ab,Y,q1,rfl,ap,aY,aq.symm⟩)) V
 ·intro az hm;rcases hg with⟨q1,q2,ac,Z,aa⟩ | ⟨ab,f0,q1,_⟩
  ·have a2:ag.flatten= []:=List.eq_nil_of_length_eq_zero (by rw [IT aQ,ah,hm];simp);have:=fin none 0 [] [] (an (by rw [q2,hm,aa,a2];exact GS.nil)) (by rw [Z] at am;simpa using am);rw [q2,hm] at this;rw [Z];simp only [List.append_nil] at this ⊢;exact this
  ·rw [q1] at az;cases az
 ·intro r Y O a3 ap aq V;have a5:(S.set j []).flatten++seg++ [(r,Obj.cells Y e (0,0))]=(S.set j []).flatten++(seg++ [(r,.cells Y e (0,0))]):=List.append_assoc _ _ _;rw [a5] at V ⊢;exact fin (some ⟨r,0,none⟩) O seg _ (an (.inr ⟨r,Y,rfl,rfl,ap,a3,aq.symm⟩)) V
end
section
variable {P:Program}{J:Judge P}{Q:Goroutine→St→Prop}{b:Frame}{n:Nat}{ds:List Deferred}{ops:Array Oper}{k:List Item}{cs:List Frame}{m fuel:Nat}{D:Nat→Bool}{listed:Array Bool}{L:Env}{s:St}{E E' H:LH}{S:List Seg}
variable {d:Option Tmp}{x y:Operand}{t u ty e:TypeId}{p:String}{af:Array Edge}{g:Option (Nat×Bool)}{v:Value}{i:Nat}{kd:IntKind}
theorem Take.AV{jp K:Nat}{o:Obj}{oi:Oper}(hN:NdS E H S)(U:S[jp]? =some [(K,o)])(hi:ops[i]? =some oi)(O:(!B5 oi.op&&AQ n oi.dst)=true)(hw:Az L ops oi=some true)
  (h:∀ρ,CN L ρ→NdS (plus E K o) H (S.set jp [])→lp P (execOp ρ oi) (mkS (plus E K o) H (S.set jp [])) (fun nx s'=>∃v S',nx= .value v∧s'=mkS (plus E K o) H S'∧NdS (plus E K o) H S'∧S'[jp]? =some []∧
   (NdS E H (S'.set jp [(K,o)])→JAL J Q b n ds ops k cs m (Ak [K]) fuel (AF listed i) (Aj L oi.dst v) (mkS E H (S'.set jp [(K,o)])))) (fun _ _=>False)):
  Take J Q b n ds ops k cs m (Ak [K]) fuel listed L (mkS E H S) i:=by
 simp only [Bool.and_eq_true] at O;refine⟨oi,hi,O.1,O.2,hw,fun ρ V=>?_⟩;obtain⟨Y,Z⟩:=Tt hN U;rw [Y];refine BS _ (h ρ V Z) ?_ (fun _ _ h=>h);rintro nx s' ⟨v,S',rfl,rfl,h3,aa,ab⟩;obtain⟨h6,ac⟩:=RE hN U h3 aa;show JAL J Q b n ds ops k cs m (Ak [K]) fuel (AF listed i) (Aj L oi.dst v) (Bu (Ak [K]) (mkS E H S) (mkS (plus E K o) H S'));rw [h6];exact ab ac
theorem Take.lit{jp K:Nat}{o:Obj}{α:Type}{pp:Rp α}{len:Nat}{O:Array (Nat×Operand)}(vs:List Value){z:Value}(xs:List α)(hN:NdS E H S)(U:S[jp]? =some [(K,o)])
  (Z:ops[i]? =some ⟨d,.buildSlice t len O,ty,p,af,g⟩) (hw:Az L ops ⟨d,.buildSlice t len O,ty,p,af,g⟩=some true) (aa:AQ n d=true)
  (ht:P.underlying t=some (.slice e)) (ab:A0 P e=some pp.n) (ac:zeroOf P e=some z) (ae:decide (0<len*pp.n∧len*pp.n≤2 ^ 24)=true)
  (ag:O.toList.mapM (fun q=>(ev L q.2).map fun v=>(q.1,v))=some ((vs.zipIdx 0).map fun q=>(q.2,q.1)))
  (ah:vs.length=len) (ai:xs.length=len) (aj:Gl pp E xs vs)
  (h:∀r seg,OL e pp E (some ⟨r,0,none⟩) len seg xs→NdS E H (S++ [seg])→JAL J Q b n ds ops k cs m (Ak [K]) fuel (AF listed i) (Aj L d (.slice (some ⟨r,0,none⟩) xs.length len)) (mkS E H (S++ [seg]))):
  Take J Q b n ds ops k cs m (Ak [K]) fuel listed L (mkS E H S) i:=by
 have V:jp<S.length:=(List.getElem?_eq_some_iff.1 U).1;refine Take.AV hN U Z (by simp [B5,aa]) hw fun ρ ak al=>LM ak vs xs ht ab ac ae ag ah ai aj al fun r seg am an=>⟨_,S.set jp []++ [seg],rfl,rfl,an,by rw [List.getElem?_append_left (by simpa using V)];simp [V],fun Y=>?_⟩;have ao:(S.set jp []++ [seg]).set jp [(K,o)]=S++ [seg]:=by
  rw [List.set_append_left _ _ (by simpa using V),List.set_set];congr 1;apply List.ext_getElem?;intro q;rw [List.getElem?_set];split
  ·rename_i e;subst e;rw [U]
  ·rfl
 rw [ao] at Y ⊢;exact h r seg am Y
theorem Take.app{jp K:Nat}{o:Obj}{α:Type}{pp:Rp α}{t1:TypeId}{Z c cx:Nat}{a ax:Option Addr}{seg ae:Seg}{xs ys aa:List α}{ats:Array TypeId}{z:Value}(j O:Nat)(hN:NdS E H S)(ab:S[jp]? =some [(K,o)])(ai:Cj xs ys=some aa)
  (aj:ops[i]? =some ⟨d,.call ⟨.builtin .append,#[x,y],ats⟩,ty,p,af,g⟩) (hw:Az L ops ⟨d,.call ⟨.builtin .append,#[x,y],ats⟩,ty,p,af,g⟩=some true) (ak:AQ n d=true)
  (al:ev L x=some (.slice a xs.length c)) (am:ev L y=some (.slice ax ys.length cx)) (an:ats[0]? =some t) (ao:ats[1]? =some t1) (ht:P.underlying t=some (.slice e)) (ap:P.underlying t1=some (.slice e)) (aq:A0 P e=some pp.n) (hb:C6 P e=some Z) (ar:zeroOf P e=some z) (au:z.cells.size=pp.n)
  (av:0<Z) (aw:Z≤64) (hg:OL e pp E a c seg xs) (ay:OL e pp E ax cx ae ys) (az:S[j]? =some seg) (aA:S[O]? =some ae) (aB:(j==jp)=false) (aC:(O==jp)=false)
  (h:∀U V g seg',OL e pp E U V seg' aa→NdS E H (S.set j (g++seg'))→JAL J Q b n ds ops k cs m (Ak [K]) fuel (AF listed i) (Aj L d (.slice U aa.length V)) (mkS E H (S.set j (g++seg')))):
  Take J Q b n ds ops k cs m (Ak [K]) fuel listed L (mkS E H S) i:=by
 have aD:jp<S.length:=(List.getElem?_eq_some_iff.1 ab).1;have ac:j≠jp:=by simpa using aB
 have aE:O≠jp:=by simpa using aC
 refine Take.AV hN ab aj (by simp [B5,ak]) hw fun ρ ag aF=>OG j O ai (ag _ _ al) (ag _ _ am) an ao ht ap aq hb ar au av aw hg ay aF (by rw [List.getElem?_set_ne (Ne.symm ac)];exact az) (by rw [List.getElem?_set_ne (Ne.symm aE)];exact aA) fun U V Y seg' aG aH=>⟨_,(S.set jp []).set j (Y++seg'),rfl,rfl,aH,by rw [List.getElem?_set_ne ac];simp [aD],fun ah=>?_⟩;have aI:((S.set jp []).set j (Y++seg')).set jp [(K,o)]=S.set j (Y++seg'):=by
  rw [List.set_comm _ _ ac,List.set_set];congr 1;apply List.ext_getElem?;intro q;rw [List.getElem?_set];split
  ·rename_i e;subst e;rw [ab]
  ·rfl
 rw [aI] at ah ⊢;exact h U V Y seg' aG ah
end
end Pal
namespace Pal
open Go Go.Conc
section
variable {P:Program}{J:Judge P}{Q:Goroutine→St→Prop}{b:Frame}{n:Nat}{ds:List Deferred}{ops:Array Oper}{k:List Item}{cs:List Frame}{m fuel:Nat}{D:Nat→Bool}{listed:Array Bool}{L:Env}{s:St}{E E' H:LH}{S:List Seg}
variable {d:Option Tmp}{x y:Operand}{t u ty e:TypeId}{p:String}{af:Array Edge}{g:Option (Nat×Bool)}{v:Value}{i:Nat}{kd:IntKind}
theorem Take.Ky{oi:Oper}(hi:ops[i]? =some oi)(K:(!B5 oi.op&&AQ n oi.dst)=true)(hw:Az L ops oi=some true)
  (h:∀ρ,CN L ρ→lp P (execOp ρ oi) s (fun nx s'=>match nx with
   | .value v=>JAL J Q b n ds ops k cs m CP fuel (AF listed i) (Aj L oi.dst v) s'
   | .skip=>JAL J Q b n ds ops k cs m CP fuel (AF listed i) (Aj L oi.dst undef) s'
   | _=>False) (fun _ _=>False)):Take J Q b n ds ops k cs m CP fuel listed L s i:=by
 simp only [Bool.and_eq_true] at K
 refine⟨oi,hi,K.1,K.2,hw,fun ρ U=>BS _ (h ρ U) ?_ (fun _ _ h=>h)⟩
 intro nx s' O
 cases nx with
 | value v=>exact O
 | skip=>exact O
 | _=>exact O.elim
theorem Take.Ko{α:Type}{pp:Rp α}{len:Nat}{K:Array (Nat×Operand)}(vs:List Value){z:Value}(xs:List α)(hN:NdS E H S)
  (O:ops[i]? =some ⟨d,.buildSlice t len K,ty,p,af,g⟩) (hw:Az L ops ⟨d,.buildSlice t len K,ty,p,af,g⟩=some true) (U:AQ n d=true)
  (ht:P.underlying t=some (.slice e)) (V:A0 P e=some pp.n) (Y:zeroOf P e=some z) (Z:decide (0<len*pp.n∧len*pp.n≤2 ^ 24)=true)
  (aa:K.toList.mapM (fun q=>(ev L q.2).map fun v=>(q.1,v))=some ((vs.zipIdx 0).map fun q=>(q.2,q.1)))
  (ab:vs.length=len) (ac:xs.length=len) (ae:Gl pp E xs vs)
  (h:∀r seg,OL e pp E (some ⟨r,0,none⟩) len seg xs→NdS E H (S++ [seg])→JAL J Q b n ds ops k cs m CP fuel (AF listed i) (Aj L d (.slice (some ⟨r,0,none⟩) xs.length len)) (mkS E H (S++ [seg]))):
  Take J Q b n ds ops k cs m CP fuel listed L (mkS E H S) i:=
 Take.Ky O (by simp [B5,U]) hw fun ρ ag=>LM ag vs xs ht V Y Z aa ab ac ae hN fun r seg ah ai=>h r seg ah ai
theorem Take.app0{α:Type}{pp:Rp α}{t1:TypeId}{U c cx:Nat}{a ax:Option Addr}{seg Y:Seg}{xs ys V:List α}{ats:Array TypeId}{z:Value}(j Z:Nat)(hN:NdS E H S)(ab:Cj xs ys=some V)
  (ac:ops[i]? =some ⟨d,.call ⟨.builtin .append,#[x,y],ats⟩,ty,p,af,g⟩) (hw:Az L ops ⟨d,.call ⟨.builtin .append,#[x,y],ats⟩,ty,p,af,g⟩=some true) (ae:AQ n d=true)
  (ag:ev L x=some (.slice a xs.length c)) (ah:ev L y=some (.slice ax ys.length cx)) (ai:ats[0]? =some t) (aj:ats[1]? =some t1) (ht:P.underlying t=some (.slice e)) (ak:P.underlying t1=some (.slice e)) (al:A0 P e=some pp.n) (hb:C6 P e=some U) (am:zeroOf P e=some z) (an:z.cells.size=pp.n)
  (ao:0<U) (ap:U≤64) (hg:OL e pp E a c seg xs) (aq:OL e pp E ax cx Y ys) (ar:S[j]? =some seg) (au:S[Z]? =some Y)
  (h:∀K O g seg',OL e pp E K O seg' V→NdS E H (S.set j (g++seg'))→JAL J Q b n ds ops k cs m CP fuel (AF listed i) (Aj L d (.slice K V.length O)) (mkS E H (S.set j (g++seg')))):
  Take J Q b n ds ops k cs m CP fuel listed L (mkS E H S) i:=
 Take.Ky ac (by simp [B5,ae]) hw fun ρ aa=>OG j Z ab (aa _ _ ag) (aa _ _ ah) ai aj ht ak al hb am an ao ap hg aq hN ar au fun K O av seg' aw ay=>h K O av seg' aw ay
theorem Take.alloc0{z:Value}(hN:NdS E H S)(O:ops[i]? =some ⟨d,.alloc e,ty,p,af,g⟩)(hw:Az L ops ⟨d,.alloc e,ty,p,af,g⟩=some true)(U:AQ n d=true)(V:zeroOf P e=some z)
  (h:∀r,NdS E H (S++ [[(r,.cells z.cells e (0,0))]])→JAL J Q b n ds ops k cs m CP fuel (AF listed i) (Aj L d (.pointer (some ⟨r,0,none⟩))) (mkS E H (S++ [[(r,.cells z.cells e (0,0))]]))):
  Take J Q b n ds ops k cs m CP fuel listed L (mkS E H S) i:=
 Take.Ky O (by simp [B5,U]) hw fun ρ _=>by
  show lp P (do pure (Next.value (← Instr.alloc e true (.tuple #[])))) _ _ _
  refine Ah _ _ ?_
  unfold Instr.alloc
  refine Ah _ _ (D6 V ?_)
  refine Ah _ _ (Fc hN fun r K=>?_)
  rw [(CM K).1]
  exact h r (CM K).2
end
end Pal
namespace Pal
open Go Go.Conc
theorem Ec{α:Type}{kk:Nat}{pp:Rp α}{E:LH}{ws:List Value}{xs:List α}(K:(rA kk pp).r E ws xs):ws.length=kk*pp.n:=(rA kk pp).len K
theorem F8{α:Type}{kk:Nat}{pp:Rp α}{E:LH}{ws:List Value}{xs:List α}{m:Int}{x:α}(O:(rA kk pp).r E ws xs)(hm:ix xs m=some x):∃us,pp.r E us x∧0≤m∧m<kk∧(∀j w,us[j]? =some w→ws[m.toNat*pp.n+j]? =some w):=by
 obtain⟨U,wss,rfl,V,K⟩:=O;obtain⟨m,rfl,hm⟩:=FK hm;have Z:m<xs.length:=(List.getElem?_eq_some_iff.1 hm).1;have hw:wss[m]? =some wss[m]:=List.getElem?_eq_getElem (by omega);exact⟨wss[m],K m x _ hm hw,by omega,by omega,fun j w Y=>GY (Ga (V.trans U.symm) K) hw j w Y⟩
section
variable {P:Program}{J:Judge P}{Q:Goroutine→St→Prop}{b:Frame}{n:Nat}{ds:List Deferred}{ops:Array Oper}{k:List Item}{cs:List Frame}{L:Env}{E H:LH}{S:List Seg}
variable {d:Option Tmp}{x y:Operand}{t u ty e:TypeId}{p:String}{af:Array Edge}{g:Option (Nat×Bool)}{i:Nat}{rest:List Nat}{kd:IntKind}{s:St}{ρ:Operand→Value}
theorem G5{α:Type}{kk:Nat}{pp:Rp α}{a:Addr}{ws:List Value}{xs:List α}(K:(rA kk pp).r E ws xs)(ht:Ce P t=some true)(O:A0 P t=some (kk*pp.n))(U:ρ x= .pointer (some a))(h:∀j v,ws[j]? =some v→s.cell? (a.add j)=some v):Yl P ⟨d,.load t x,ty,p,af,g⟩ ρ s (.agg ws.toArray):=
 A2 ht (by rw [Ec K];exact O) U h
theorem Pp{α:Type}{pp:Rp α}{kk:Nat}{ws:List Value}{xs:List α}{xv:α}{m:Int}{O:Bool}(V:(rA kk pp).r E ws xs)(hm:ix xs m=some xv)
  (ae:ops[i]? =some ⟨d,.index t x y,ty,p,af,g⟩) (hw:Az L ops ⟨d,.index t x y,ty,p,af,g⟩=some true) (ag:Bw b n ⟨d,.index t x y,ty,p,af,g⟩=true)
  (ah:ev L x=some (.agg ws.toArray)) (ai:ev L y=some (.int kd m)) (ht:P.underlying t=some (.array kk e)) (Y:A0 P e=some pp.n) (aj:Ce P e=some O)
  (h:∀us,pp.r E us xv→JL J Q b n (Aj L d (if O then .agg us.toArray else us.headD undef)) ds (.inRegion ops rest::k) cs s) (ak:O=false→pp.n=1):
  JL J Q b n L ds (.inRegion ops (i::rest)::k) cs s:=by
 obtain⟨us,Z,al,h3,aa⟩:=F8 V hm;have hlen:=pp.len Z;have am:=Ec V;refine Ay ae hw ag (fun ρ ab=>?_) (h us Z);refine Dl (sm:=Instr.index t (ρ x) (ρ y)) rfl ?_;rw [ab _ _ ah,ab _ _ ai];unfold Instr.index;simp only [asIntOf,Fa];refine Ah (x:=underlying t) _ (BM ht ?_);simp only [al,h3,and_self,if_true];refine Ah (x:=Go.sizeOf e) _ (Da Y ?_);unfold Go.part;refine Ah (x:=isAgg e) _ (HX aj ?_);have ao:m.toNat*pp.n+pp.n≤ws.length:=by
  rw [am];have:(m.toNat+1)*pp.n≤kk*pp.n:=Nat.mul_le_mul_right _ (by omega);rw [Nat.succ_mul] at this;exact this
 cases O with
 | true=>
  simp only [if_true];refine Ah (x:=Go.sizeOf e) _ (Da Y ?_);have an:ws.toArray.extract (m.toNat*pp.n) (m.toNat*pp.n+pp.n)=us.toArray:=by
   apply Array.ext_getElem?;intro j;by_cases ac:j<us.length
   ·have U:=aa j us[j] (List.getElem?_eq_getElem ac);simp only [Array.getElem?_extract,List.size_toArray,List.getElem?_toArray];rw [if_pos (by omega),U];simp [ac]
   ·rw [Array.getElem?_eq_none (by simp;omega),Array.getElem?_eq_none (by simp;omega)]
  rw [an];exact⟨rfl,rfl⟩
 | false=>
  have h6:=ak rfl;obtain⟨w,rfl⟩:∃w,us= [w]:=by
   match us,hlen with
   | [w],_=>exact⟨w,rfl⟩
   | [],K=>rw [h6] at K;cases K
   | _::_::_,K=>rw [h6] at K;simp at K
  have U:=aa 0 w rfl;simp only [Bool.false_eq_true,if_false,List.getElem?_toArray];rw [Nat.add_zero] at U;rw [U];exact⟨rfl,rfl⟩
end
end Pal
namespace Pal
open Go Go.Conc
def Es(S:List Seg):List Nat→Prop
 | []=>True
 | K::bks=>(∃(j:Nat) (o:Obj),S[j]? =some [(K,o)])∧Es S bks
theorem Es.mem{S:List Seg}:∀{bks:List Nat},Es S bks→∀K∈bks,∃(j:Nat) (o:Obj),S[j]? =some [(K,o)]
 | [],_,_,h=>by cases h
 | b::bks,h,K,hb=>by
  rcases List.mem_cons.1 hb with rfl | hb
  ·exact h.1
  ·exact h.2.mem K hb
theorem Es.free{E H:LH}{S:List Seg}{bks:List Nat}(h:Es S bks)(hN:NdS E H S):∀x,Ak bks x=true→E x=none:=fun x K=>by
 obtain⟨j,o,O⟩:=h.mem x (by simpa [Ak] using K)
 exact J1 hN O
section
variable {P:Program}{J:Judge P}{Q:Goroutine→St→Prop}{b:Frame}{n:Nat}{ds:List Deferred}{ops:Array Oper}{k:List Item}{cs:List Frame}{m fuel:Nat}{D:Nat→Bool}{listed:Array Bool}{L:Env}{s:St}{E E' H:LH}{S:List Seg}
variable {d:Option Tmp}{x y:Operand}{t u ty e:TypeId}{p:String}{af:Array Edge}{g:Option (Nat×Bool)}{v:Value}{i:Nat}{kd:IntKind}
theorem ND{bks:List Nat}{f:FuncId}{args:Array Operand}{ats:Array TypeId}{vs:List Value}{R:Value→LH→Seg→Prop}(ac:Es S bks)(ae:Al J f vs E [] R)(ag:Region.ready .any ops listed= [i])
  (ah:ops[i]? =some ⟨d,.call ⟨.value (.func f),args,ats⟩,ty,p,af,g⟩) (ai:AQ n d=true) (hw:Az L ops ⟨d,.call ⟨.value (.func f),args,ats⟩,ty,p,af,g⟩=some true) (hb:Ch P f=true) (aj:evs L args.toList=some vs) (hN:NdS E H S)
  (ak:∀v E' seg',Le E E'→R v E' seg'→NdS E' H (S++ [seg'])→JAL J Q b n ds ops k cs m (Ak bks) fuel (AF listed i) (Aj L d v) (mkS E' H (S++ [seg']))):
  JAL J Q b n ds ops k cs m (Ak bks) (fuel+1) listed L (mkS E H S):=by
 have al:=Co.HA (ae (AB S.flatten H) trivial) (by rintro v s' ⟨E',B',_,_,_,rfl⟩;rfl);refine JAL.call rfl ag ah ai hw hb aj al ?_;rintro v aw ⟨⟨E',B',hle,am,an,rfl⟩,w,ao⟩;have ap:mk E' (AB S.flatten H) B'=mk E' H (B'++S.flatten):=by unfold mk;rw [DU]
 have aq:Nd E' H S.flatten:=Nd.grow hN fun x O=>by
  have ar:=ao.d x O;have U:AB B' (AB S.flatten H) x=none:=ar;exact(ED U).1
 have Z:Nd E' H (B'++S.flatten):=Nd.glue an aq;have aa:(B'++S.flatten).Perm (S++ [B']).flatten:=by rw [EF];exact List.perm_append_comm
 have ab:NdS E' H (S++ [B']):=Nd.perm Z aa;rw [ap,Dp Z aa];refine⟨rfl,fun x o O=>?_,ak v E' B' hle am ab⟩;by_cases V:Ak bks x=true
 ·obtain⟨j,o',Y⟩:=ac.mem x (by simpa [Ak] using V);have U:(mkS E H S).get x=some o':=C5 (i:=0) hN Y rfl;have au:j<S.length:=(List.getElem?_eq_some_iff.1 Y).1;have av:(mkS E' H (S++ [B'])).get x=some o':=C5 (i:=0) ab (by rw [List.getElem?_append_left au];exact Y) rfl;have K:(if Ak bks x then(mkS E H S).get x else E x)=some o:=O
  show(if Ak bks x then(mkS E' H (S++ [B'])).get x else E' x)=some o
  rw [if_pos V] at K ⊢;rw [av,← U];exact K
 ·have K:(if Ak bks x then(mkS E H S).get x else E x)=some o:=O
  show(if Ak bks x then(mkS E' H (S++ [B'])).get x else E' x)=some o
  rw [if_neg V] at K ⊢;exact hle _ _ K
theorem Sx(m:Nat)(bks:List Nat){id:Nat}(O:Es S bks)(hN:NdS E H S)(hm:P.follows .mixedOrders=true)(K:(b.kind != .early)=true)(ht:Cv ops m=true)
  (h:Cv ops m=true→JAL J Q b n ds ops k cs m (Ak bks) ops.size (Array.replicate ops.size false) L (mkS E H S)):JL J Q b n L ds (.code (.region id ops true)::k) cs (mkS E H S):=
 N8 m (Ak bks) rfl hm K (h ht)
theorem AX{bks:List Nat}{K o:Nat}{c:Array Value}{f:Nat×Nat}{w:Value}{s':St}(j:Nat)(hN:NdS E H S)(O:S[j]? =some [(K,.cells c e f)])(hD:Ak bks K=true)(hs:∀x o,(AV (Ak bks) (mkS E H S)).E x=some o→s'.E x=some o)(hw:c[o]? =some w):s'.cell? ⟨K,o,none⟩=some w:=by
 have U:(AV (Ak bks) (mkS E H S)).E K=some (.cells c e f):=by
  show(if Ak bks K then(mkS E H S).get K else E K)=_
  rw [if_pos hD];exact C5 (i:=0) hN O rfl
 have V:=hs _ _ U;unfold St.cell? St.get;rw [V];exact hw
theorem Rx{bks:List Nat}{K o:Nat}{c:Array Value}{f:Nat×Nat}{ws:List Value}{s':St}(j:Nat)(hN:NdS E H S)(U:S[j]? =some [(K,.cells c e f)])(hD:Ak bks K=true)(hs:∀x o,(AV (Ak bks) (mkS E H S)).E x=some o→s'.E x=some o)(hw:(c.toList.drop o).take ws.length=ws):∀q w,ws[q]? =some w→s'.cell? (Addr.add ⟨K,o,none⟩ q)=some w:=fun q w O=>by
 rw [AS rfl]
 refine AX j hN U hD hs ?_
 have V:q<ws.length:=(List.getElem?_eq_some_iff.1 O).1
 rw [← hw,List.getElem?_take_of_lt V,List.getElem?_drop,Array.getElem?_toList] at O
 exact O
theorem CE{bks:List Nat}{s':St}(hN:NdS E H S)(hs:∀x o,(AV (Ak bks) (mkS E H S)).E x=some o→s'.E x=some o)(O:Es S bks):∀x o,E x=some o→s'.E x=some o:=fun x o K=>hs x o (by
 show(if Ak bks x then(mkS E H S).get x else E x)=some o
 rw [if_neg (fun U=>by rw [O.free hN x U] at K;cases K)];exact K)
end
end Pal
namespace Pal
open Go Go.Conc
theorem R1{P:Program}{s:St}{ρ:Operand→Value}{x y:Operand}{d:Option Tmp}{t ty e:TypeId}{p:String}{af:Array Edge}{g:Option (Nat×Bool)}{kd:IntKind}{α:Type}{xs:List α}{xv:α}{m:Int}{K c O:Nat}(hm:ix xs m=some xv)(ht:P.underlying t=some (.slice e))(U:A0 P e=some O)(V:ρ x= .slice (some ⟨K,0,none⟩) xs.length c)(Y:ρ y= .int kd m):
  Yl P ⟨d,.indexAddr t x y,ty,p,af,g⟩ ρ s (.pointer (some ⟨K,m.toNat*O,none⟩)):=by
 obtain⟨m,rfl,hm⟩:=FK hm;have Z:m<xs.length:=(List.getElem?_eq_some_iff.1 hm).1;have:=I2 (P:=P) (s:=s) (d:=d) (ty:=ty) (p:=p) (af:=af) (g:=g) ht U V Y ⟨by omega,by omega⟩;rw [AS rfl] at this;simpa using this
end Pal
namespace Pal
open Go Go.Conc
def Fs(ws:List Value)(q:Nat)(us:List Value):List Value:=(AJ ws.toArray q us).toList
theorem I6{ws us:List Value}{q:Nat}(h:q+us.length≤ws.length)(j:Nat):(Fs ws q us)[j]? =if q≤j∧j<q+us.length then us[j - q]? else ws[j]? :=by
 unfold Fs;rw [Array.getElem?_toList,I0 us _ q (by simpa using h)];simp
theorem QP{l ws us:List Value}{q:Nat}(h:q+us.length≤ws.length):AJ (l++ws).toArray (l.length+q) us=(l++Fs ws q us).toArray:=by
 apply Array.ext_getElem?;intro j;rw [I0 us _ _ (by simp;omega)];simp only [List.getElem?_toArray];by_cases O:l.length+q≤j∧j<l.length+q+us.length
 ·rw [if_pos O,List.getElem?_append_right (by omega),I6 h,if_pos (by omega)];congr 1;omega
 ·rw [if_neg O];rcases Nat.lt_or_ge j l.length with K | K
  ·rw [List.getElem?_append_left K,List.getElem?_append_left K]
  ·rw [List.getElem?_append_right K,List.getElem?_append_right K,I6 h,if_neg (by omega)]
theorem N4{ws us:List Value}(h:us.length=ws.length):Fs ws 0 us=us:=by
 apply List.ext_getElem?;intro j;rw [I6 (by omega)];split
 ·simp
 ·rename_i K;rw [List.getElem?_eq_none (by omega),List.getElem?_eq_none (by omega)]
theorem I8{E H:LH}{S:List Seg}{K:Nat}{l ws:List Value}{e:TypeId}{f:Nat×Nat}(j:Nat)(hN:NdS E H S)(O:S[j]? =some [(K,.cells (l++ws).toArray e f)]):∀q v,ws[q]? =some v→(mkS E H S).cell? (Addr.add ⟨K,l.length,none⟩ q)=some v:=fun q v U=>by
 rw [AS rfl]
 refine Cn hN O ?_
 simp only [List.getElem?_toArray]
 rw [List.getElem?_append_right (by omega)]
 rw [show l.length+q - l.length=q by omega];exact U
theorem Rh{E H:LH}{S:List Seg}{K o:Nat}{l ws:List Value}{e:TypeId}{f:Nat×Nat}{w:Value}(j:Nat)(hN:NdS E H S)(O:S[j]? =some [(K,.cells (l++ws).toArray e f)])(U:ws[o]? =some w):(mkS E H S).cell? ⟨K,l.length+o,none⟩=some w:=by
 have:=I8 j hN O o w U
 rwa [AS rfl] at this
theorem LU{α:Type}{kk:Nat}{pp:Rp α}{E:LH}{ws us:List Value}{xs:List α}{m:Int}{x y:α}(Y:(rA kk pp).r E ws xs)(hm:ix xs m=some x)(hu:pp.r E us y):(rA kk pp).r E (Fs ws (m.toNat*pp.n) us) (xs.set m.toNat y)∧m.toNat*pp.n+us.length≤ws.length:=by
 have ai:=Ec Y;obtain⟨Z,wss,rfl,aa,ab⟩:=Y;obtain⟨m,rfl,hm⟩:=FK hm;have aj:m<xs.length:=(List.getElem?_eq_some_iff.1 hm).1;have ac:=pp.len hu;have ak:=Ga (aa.trans Z.symm) ab;have ae:m*pp.n+us.length≤wss.flatten.length:=by
  rw [ai,ac];have:(m+1)*pp.n≤kk*pp.n:=Nat.mul_le_mul_right _ (by omega);rw [Nat.succ_mul] at this;exact this
 simp only [Int.toNat_natCast];refine⟨⟨by simpa using Z,wss.set m us,?_,by simpa using aa,fun i al am O U=>?_⟩,ae⟩
 ·apply List.ext_getElem?;intro j;rw [I6 ae];have key:∀(wss:List (List Value)) (m:Nat) (hm:m<wss.length),(∀ws∈wss,ws.length=pp.n)→∀j,(wss.set m us).flatten[j]? =if m*pp.n≤j∧j<m*pp.n+us.length then us[j - m*pp.n]? else wss.flatten[j]? :=by
   intro wss
   induction wss with
   | nil=>intro m hm;simp at hm
   | cons vs wss an=>
    intro m hm ag j;have ao:vs.length=pp.n:=ag vs (by simp);cases m with
    | zero=>
     simp only [List.set_cons_zero,List.flatten_cons,Nat.zero_mul,Nat.zero_le,true_and,Nat.zero_add,Nat.sub_zero];split
     ·rename_i K;rw [List.getElem?_append_left K]
     ·rename_i K;rw [List.getElem?_append_right (by omega),List.getElem?_append_right (by omega),ac,ao]
    | succ m=>
     simp only [List.set_cons_succ,List.flatten_cons];have V:(m+1)*pp.n=m*pp.n+pp.n:=Nat.succ_mul _ _;rcases Nat.lt_or_ge j vs.length with K | K
     ·rw [List.getElem?_append_left K,List.getElem?_append_left K,if_neg (by omega)]
     ·rw [List.getElem?_append_right K,List.getElem?_append_right K,an m (by simpa using hm) (fun ws ap=>ag ws (List.mem_cons_of_mem _ ap))];by_cases ah:m*pp.n≤j - vs.length∧j - vs.length<m*pp.n+us.length
      ·rw [if_pos ah,if_pos (by omega)];congr 1;omega
      ·rw [if_neg ah,if_neg (by omega)]
  exact(key wss m (by omega) ak j).symm
 ·rw [List.getElem?_set] at O U;by_cases V:m=i
  ·subst V;rw [if_pos rfl,if_pos aj] at O;rw [if_pos rfl,if_pos (by omega)] at U;cases O;cases U;exact hu
  ·rw [if_neg V] at O U;exact ab i al am O U
theorem Hj{α:Type}{kk:Nat}{pp:Rp α}{E:LH}{w:Value}{x:α}(h:pp.r E [w] x):(rA kk pp).r E (List.replicate kk w) (List.replicate kk x):=by
 refine⟨by simp,List.replicate kk [w],?_,by simp,fun i y us K hu=>?_⟩
 ·induction kk with
  | zero=>rfl
  | succ k O=>rw [List.replicate_succ,List.replicate_succ,List.flatten_cons,← O];rfl
 ·have U:=List.eq_of_mem_replicate (List.mem_of_getElem? K);have V:=List.eq_of_mem_replicate (List.mem_of_getElem? hu);subst U V;exact h
section
variable {P:Program}{J:Judge P}{Q:Goroutine→St→Prop}{b:Frame}{n:Nat}{ds:List Deferred}{ops:Array Oper}{k:List Item}{cs:List Frame}{L:Env}{E H:LH}{S:List Seg}
variable {d:Option Tmp}{x y:Operand}{t u ty e:TypeId}{p:String}{af:Array Edge}{g:Option (Nat×Bool)}{i:Nat}{rest:List Nat}{kd:IntKind}{s:St}{ρ:Operand→Value}
theorem G1{α:Type}{kk:Nat}{pp:Rp α}{ws:List Value}{xs:List α}{xv:α}{m:Int}{K o:Nat}(O:(rA kk pp).r E ws xs)(hm:ix xs m=some xv)(ht:P.underlying t=some (.array kk e))(U:A0 P e=some pp.n)(V:ρ x= .pointer (some ⟨K,o,none⟩))(Y:ρ y= .int kd m):
  Yl P ⟨d,.indexAddr t x y,ty,p,af,g⟩ ρ s (.pointer (some ⟨K,o+m.toNat*pp.n,none⟩)):=by
 obtain⟨us,aa,Z,h3,ab⟩:=F8 O hm;have:=M4 (P:=P) (s:=s) (d:=d) (ty:=ty) (p:=p) (af:=af) (g:=g) ht U V Y ⟨Z,h3⟩;rw [AS rfl] at this;exact this
theorem HR{K o:Nat}{l ws us:List Value}{v:Value}(j:Nat)(V:ops[i]? =some ⟨d,.store t x y,ty,p,af,g⟩)(hw:Az L ops ⟨d,.store t x y,ty,p,af,g⟩=some true)(Y:Bw b n ⟨d,.store t x y,ty,p,af,g⟩=true)(hN:NdS E H S)
  (Z:ev L x=some (.pointer (some ⟨K,l.length+o,none⟩))) (aa:ev L y=some v) (O:v.cells.toList=us) (ab:A0 P t=some us.length) (ac:∀u∈us,Ba u=true) (ae:S[j]? =some [(K,.cells (l++ws).toArray e (0,0))]) (hle:o+us.length≤ws.length)
  (h:NdS E H (S.set j [(K,.cells (l++Fs ws o us).toArray e (0,0))])→JL J Q b n (Aj L d undef) ds (.inRegion ops rest::k) cs (mkS E H (S.set j [(K,.cells (l++Fs ws o us).toArray e (0,0))]))):
  JL J Q b n L ds (.inRegion ops (i::rest)::k) cs (mkS E H S):=by
 have ag:v.cells.size=us.length:=by rw [← O];simp
 refine JS.store (v:=v) (off:=l.length+o) j V hw Y hN Z aa (by rw [ag];exact ab) (by rw [O];exact ac) ae (by simp;omega) fun U=>?_;rw [O,QP hle] at U ⊢;exact h U
theorem SX{todo:List Item}{K A:Type}{body:K→Option (AH K A)}{f:Nat}{O:K}{a:A}(U:iter body f O=some a)(I:Env→St→K→Prop)(Y:I L s O)
  (round:∀L s x,I L s x→(∀V,body x=some (.done V)→V=a)→(∃st,body x=some st)→(∀L' s' x',I L' s' x'→body x=some (.more x')→JL J Q b n L' ds todo cs s')→JL J Q b n L ds todo cs s):
  JL J Q b n L ds todo cs s:=by
 induction f generalizing L s O with
 | zero=>cases U
 | succ f Z=>
  exact round L s O Y (fun V h=>Nm U h) (M3 U) fun L' s' x' aa hb=>Z (Nb U hb) aa
end
end Pal
namespace Pal
open Go Go.Conc
section
variable {P:Program}{s:St}{ρ:Operand→Value}{x y z:Operand}{d:Option Tmp}{t u ty e:TypeId}{p:String}{af:Array Edge}{g:Option (Nat×Bool)}{v v':Value}{E:LH}
structure Mi (P:Program) (e:TypeId) (kd:IntKind) (f:Field):Prop where
 ht:P.underlying e=some (.struct #[f])
 hs:P.stoodInHeld e=false
 n1:f.name≠ "_"
 u1:P.underlying f.type=some (.int kd)
 o1:f.offset=0
theorem Us{n:Nat}{kd:IntKind}{a b:Int}(ht:P.underlying t=some (.int kd)){Q:Bool→St→Prop}{X:Halt→St→Prop}(k:Q (a==b) s):lp P (Op.equalIn (n+1) t (.int kd a) (.int kd b)) s Q X:=by
 unfold Op.equalIn;refine Ah _ _ (BM ht ?_);simp only [if_true];exact k
theorem SO{n:Nat}{kd:IntKind}{f:Field}{a b:Int}(h:Mi P e kd f){Q:Bool→St→Prop}{X:Halt→St→Prop}(k:Q (decide (a=b)) s):lp P (Op.equalIn (n+2) e (.agg #[.int kd a]) (.agg #[.int kd b])) s Q X:=by
 unfold Op.equalIn;refine Ah _ _ (BM h.ht ?_);refine Ah (x:=program) _ ?_;show lp P (if P.stoodInHeld e=true then _ else _) s _ _
 rw [if_neg (by rw [h.hs];exact Bool.false_ne_true)];have a1:Ce P f.type=some false:=by unfold Ce;rw [h.u1]
 dsimp only;rw [← Array.forIn_toList];simp only [List.forIn_cons,List.forIn_nil];refine Ah _ _ (Ah _ _ ?_);rw [if_pos h.n1,h.o1];refine Ah _ _ (Hb (v:= .int kd a) a1 rfl ?_);refine Ah _ _ (Hb (v:= .int kd b) a1 rfl ?_);refine Ah _ _ (Us h.u1 ?_);by_cases h:a=b
 ·subst h;simpa [lp,pure] using k
 ·simpa [lp,pure,h] using k
theorem NF{c:Array Value}{off:Nat}{w:Value}(ht:Ce P e=some true)(K:A0 P e=some 1)(hw:c[off]? =some w){Q:Value→St→Prop}{X:Halt→St→Prop}(k:Q (.agg #[w]) s):lp P (part e c off) s Q X:=by
 unfold Go.part;refine Ah (x:=isAgg e) _ (HX ht ?_);simp only [if_true];refine Ah (x:=Go.sizeOf e) _ (Da K ?_);have O:c.extract off (off+1)= #[w]:=by
  have U:off<c.size:=(Array.getElem?_eq_some_iff.1 hw).1;apply Array.ext_getElem?;intro j;simp only [Array.getElem?_extract];cases j with
  | zero=>rw [if_pos (by omega)];simpa using hw
  | succ j=>rw [if_neg (by omega)];simp
 show Q (.agg (c.extract off (off+1))) s;rw [O];exact k
theorem RX{n kk:Nat}{kd:IntKind}{f:Field}{ws ws':List Value}{xs O:List Nat}(ht:P.underlying t=some (.array kk e))(h:Mi P e kd f)(Z:A0 P e=some 1)(Y:(rA kk (rN kd)).r E ws xs)(ae:(rA kk (rN kd)).r E ws' O)
  {Q:Bool→St→Prop} {X:Halt→St→Prop} (k:Q (decide (xs=O)) s):lp P (Op.equalIn (n+3) t (.agg ws.toArray) (.agg ws'.toArray)) s Q X:=by
 have ag:Ce P e=some true:=by unfold Ce;rw [h.ht]
 have av:=Y.1;have aw:=ae.1;have at_:∀{ws:List Value} {xs:List Nat},(rA kk (rN kd)).r E ws xs→∀i,i<kk→∃a,xs[i]? =some a∧ws[i]? =some (.int kd ((a:Nat):Int)):=by
  intro ws xs Y i hi;obtain⟨a,ah⟩:∃a,xs[i]? =some a:=⟨_,List.getElem?_eq_getElem (by rw [Y.1];exact hi)⟩;obtain⟨us,ak,_,_,al⟩:=F8 (m:=(i:Int)) Y (by unfold ix;simp;exact ah);have am:us= [.int kd ((a:Nat):Int)]:=ak;subst am;have:=al 0 _ rfl;simp [rN] at this;exact⟨_,ah,this⟩
 unfold Op.equalIn;refine Ah _ _ (BM ht ?_);refine Ah (x:=Go.sizeOf e) _ (Da Z ?_)
 dsimp only;simp only [Std.Legacy.Range.forIn_eq_forIn_range',Std.Legacy.Range.size,Nat.sub_zero,Nat.add_one_sub_one,Nat.div_one];let an:Nat→Option Bool×Unit→Sem (ForInStep (Option Bool×Unit)):=fun i _=>do
  if !(← Op.equalIn (n+2) e (← Go.part e ws.toArray (i*1)) (← Go.part e ws'.toArray (i*1))) then pure (ForInStep.done (some false,())) else pure (ForInStep.yield (none,()))
 have key:∀(m st:Nat),st+m=kk→(∀i,i<st→xs[i]? =O[i]?)→∀{K:Option Bool×Unit→St→Prop},K (if xs=O then(none,()) else(some false,())) s→lp P (forIn (List.range' st m) (none,()) an:Sem _) s K X:=by
  intro m
  induction m with
  | zero=>
   intro st ao aa K U;have V:xs=O:=by
    apply List.ext_getElem?;intro i;rcases Nat.lt_or_ge i st with hi | hi
    ·exact aa i hi
    ·rw [List.getElem?_eq_none (by omega),List.getElem?_eq_none (by omega)]
   rw [if_pos V] at U;simp only [List.range'_zero,List.forIn_nil];exact U
  | succ m ap=>
   intro st ao aa K U;simp only [List.range'_succ,List.forIn_cons];obtain⟨a,ab,aq⟩:=at_ Y st (by omega);obtain⟨c,ac,ar⟩:=at_ ae st (by omega);refine Ah _ _ ?_;refine Ah _ _ (NF ag Z (by rw [Nat.mul_one];simpa using aq) ?_);refine Ah _ _ (NF ag Z (by rw [Nat.mul_one];simpa using ar) ?_);refine Ah _ _ (SO h ?_);by_cases ai:a=c
   ·subst ai;simp only [decide_true,Bool.not_true,Bool.false_eq_true,if_false,lp,pure];exact ap (st+1) (by omega) (fun i hi=>by
     rcases Nat.lt_or_ge i st with aj | aj
     ·exact aa i aj
     ·obtain rfl:i=st:=by omega
      rw [ab,ac]) U
   ·have au:¬xs=O:=fun q=>ai (by rw [q] at ab;rw [ab] at ac;exact Option.some.inj ac);rw [if_neg au] at U;have h6:¬((a:Nat):Int)=((c:Nat):Int):=by omega
    simp only [h6,decide_false,Bool.not_false,if_true,lp,pure];exact U
 refine Ah _ _ (key kk 0 (by omega) (fun i hi=>by omega) ?_);by_cases V:xs=O
 ·rw [if_pos V];simpa [lp,pure,V] using k
 ·rw [if_neg V];simpa [lp,pure,V] using k
def P1(P:Program)(e:TypeId)(kd:IntKind):Prop:=∃f,Mi P e kd f
theorem SJ{kk:Nat}{kd:IntKind}{ws ws':List Value}{xs K:List Nat}(ht:P.underlying t=some (.array kk e))(hg:P.eqGuardType P.depth t=false)(O:P1 P e kd)(U:A0 P e=some 1)(V:(rA kk (rN kd)).r E ws xs)(Y:(rA kk (rN kd)).r E ws' K)
  (Z:ρ x= .agg ws.toArray) (aa:ρ y= .agg ws'.toArray):Yl P ⟨d,.binOp .neq t x y u,ty,p,af,g⟩ ρ s (.bool (decide (xs≠K))):=by
 obtain⟨f,h⟩:=O;refine Dl (sm:=do eqGuard .neq t x y (ρ x) (ρ y);binOp .neq t (ρ x) (ρ y)) rfl ?_
 rw [Z,aa];refine Ah _ _ (Nh (.inr rfl) hg ?_);have hb:binOp .neq t (.agg ws.toArray) (.agg ws'.toArray)=(do pure (.bool (!(← Op.equal t (.agg ws.toArray) (.agg ws'.toArray))))):=rfl
 rw [hb];refine Ah (x:=Op.equal t _ _) _ ?_;unfold Op.equal Op.maxDepth;exact RX ht h U V Y ⟨by simp,rfl⟩
end
theorem Se{E H:LH}{S:List Seg}{K o:Nat}{l ws:List Value}{e:TypeId}{f:Nat×Nat}{w:Value}(j:Nat)(hN:NdS E H S)(U:S[j]? =some [(K,.cells (l++ws).toArray e f)])(O:l[o]? =some w):(mkS E H S).cell? ⟨K,o,none⟩=some w:=by
 refine Cn hN U ?_;simp only [List.getElem?_toArray];rw [List.getElem?_append_left (List.getElem?_eq_some_iff.1 O).1];exact O
theorem Lp{E H:LH}{S:List Seg}{bks:List Nat}{K:Nat}{l ws:List Value}{e:TypeId}{f:Nat×Nat}{s':St}(j:Nat)(hN:NdS E H S)(O:S[j]? =some [(K,.cells (l++ws).toArray e f)])(hD:Ak bks K=true)(hs:∀x o,(AV (Ak bks) (mkS E H S)).E x=some o→s'.E x=some o):∀q v,ws[q]? =some v→s'.cell? (Addr.add ⟨K,l.length,none⟩ q)=some v:=fun q v U=>by
 rw [AS rfl]
 refine AX j hN O hD hs ?_
 simp only [List.getElem?_toArray]
 rw [List.getElem?_append_right (by omega)]
 rw [show l.length+q - l.length=q by omega];exact U
end Pal
namespace Pal
open Go Go.Conc
def Mw(t1 t2:TypeId)(v:Value):Option (Int×Option Int)→Prop
 | none=>v= .nilIface
 | some (m,none)=>v= .iface t1 (.agg #[iV m])
 | some (m,some a)=>v= .iface t2 (.agg #[iV m,iV a])
def Ms:Option (Int×Option Int)→Value
 | some (m,none)=> .agg #[iV m]
 | _=> .agg #[iV 0]
def Mr:Option (Int×Option Int)→Value
 | some (m,some a)=> .agg #[iV m,iV a]
 | _=> .agg #[iV 0,iV 0]
def Kp:Option (Int×Option Int)→Bool
 | some (_,none)=>true
 | _=>false
def Ks:Option (Int×Option Int)→Bool
 | some (_,some _)=>true
 | _=>false
section
variable {P:Program}{s:St}{ρ:Operand→Value}{x y z:Operand}{d:Option Tmp}{t u ty e xt t1 t2:TypeId}{p:String}{af:Array Edge}{g:Option (Nat×Bool)}{v v':Value}{o:Option (Int×Option Int)}
theorem QF{f1:Array Field}(O:P.underlying t1=some (.struct f1))(K:zeroOf P t1=some (.agg #[iV 0]))(U:t2≠t1)(he:Mw t1 t2 v o)(V:ρ x=v):Yl P ⟨d,.typeAssert x xt t1 true,ty,p,af,g⟩ ρ s (.tuple #[Ms o,.bool (Kp o)]):=by
 refine Dl (sm:=Instr.typeAssert (ρ x) xt t1 true) rfl ?_;rw [V];unfold Instr.typeAssert;refine Ah _ _ (BM O ?_)
 match o,he with
 | none,he=>obtain rfl:v= .nilIface:=he;exact Ah (x:=zeroValue t1) _ (D6 K ⟨rfl,rfl⟩)
 | some (m,none),he=>obtain rfl:v= .iface t1 (.agg #[iV m]):=he;simp [lp,pure,Ms,Kp]
 | some (m,some a),he=>
  obtain rfl:v= .iface t2 (.agg #[iV m,iV a]):=he;simp only [if_neg U];exact Ah (x:=zeroValue t1) _ (D6 K ⟨rfl,rfl⟩)
theorem Q1{f1:Array Field}(O:P.underlying t2=some (.struct f1))(K:zeroOf P t2=some (.agg #[iV 0,iV 0]))(U:t1≠t2)(he:Mw t1 t2 v o)(V:ρ x=v):Yl P ⟨d,.typeAssert x xt t2 true,ty,p,af,g⟩ ρ s (.tuple #[Mr o,.bool (Ks o)]):=by
 refine Dl (sm:=Instr.typeAssert (ρ x) xt t2 true) rfl ?_;rw [V];unfold Instr.typeAssert;refine Ah _ _ (BM O ?_)
 match o,he with
 | none,he=>obtain rfl:v= .nilIface:=he;exact Ah (x:=zeroValue t2) _ (D6 K ⟨rfl,rfl⟩)
 | some (m,none),he=>
  obtain rfl:v= .iface t1 (.agg #[iV m]):=he;simp only [if_neg U];exact Ah (x:=zeroValue t2) _ (D6 K ⟨rfl,rfl⟩)
 | some (m,some a),he=>obtain rfl:v= .iface t2 (.agg #[iV m,iV a]):=he;simp [lp,pure,Mr,Ks]
end
def P9{P:Program}(J:Judge P)(v:Value)(args:Array Value)(s:St)(R:Value→St→Prop):Prop:=
 ∀(Q:Goroutine→St→Prop) (c:Frame) (cs:List Frame),(∀w s',R w s'→J.ok Q (G (c.finish w) cs) s')→
  lp P (do let d ← Deferred.ofValue v args;invoke d.target d.args) s (fun nx s'=>match nx with
   | .enter f a=>J.ok Q (G (Frame.enter P f a .normal) (c::cs)) s'
   | .round l f K as O=>J.ok Q (G (Frame.round l f K as O .normal) (c::cs)) s'
   | _=>False) (fun _ _=>False)
def C7{P:Program}(J:Judge P)(v:Value)(args:List Value)(E:LH)(B:Seg)(R:Value→LH→Seg→Prop):Prop:=
 ∀H,Nd E H B→P9 J v args.toArray (mk E H B) (fun v s'=>∃E' B',Le E E'∧R v E' B'∧Nd E' H B'∧s'=mk E' H B')
section
variable {P:Program}{J:Judge P}{Q:Goroutine→St→Prop}{b:Frame}{n:Nat}{L:Env}{ds:List Deferred}{k:List Item}{cs:List Frame}{E:LH}{H:LH}{S:List Seg}{i:Nat}{rest:List Nat}{d:Option Tmp}{ty e t:TypeId}{p:String}{af:Array Edge}{g:Option (Nat×Bool)}{ops:Array Oper}
theorem C7.ofFn{f:FuncId}{caps vs:List Value}{B:Seg}{R:Value→LH→Seg→Prop}(hb:Ch P f=true)(h:Al J f (vs++caps) E B R):C7 J (.func (.func f) #[] caps.toArray) vs E B R:=fun H hN Q c cs K=>by
 simp only [Deferred.ofValue,bind,Sem.bind,pure,invoke]
 have e: #[]++vs.toArray++caps.toArray=(vs++caps).toArray:=by simp
 rw [e];exact GX hb (h H hN Q c cs K)
theorem Q2{x:Operand}{O:Value}{args:Array Operand}{ats:Array TypeId}{s:St}{vs:List Value}{R:Value→St→Prop}
  (V:ops[i]? =some ⟨d,.call ⟨.value x,args,ats⟩,ty,p,af,g⟩) (hw:Az L ops ⟨d,.call ⟨.value x,args,ats⟩,ty,p,af,g⟩=some true) (U:((b.kind != .early)&&AQ n d)=true)
  (Y:ev L x=some O) (Z:evs L args.toList=some vs) (aa:P9 J O vs.toArray s R) (ab:∀v s',R v s'→JL J Q b n (Aj L d v) ds (.inRegion ops rest::k) cs s'):
  JL J Q b n L ds (.inRegion ops (i::rest)::k) cs s:=fun T K=>by
 simp only [Bool.and_eq_true] at U
 have ac:args.map (AY T)=vs.toArray:=by
  rw [← DV K.Ee Z];apply Array.ext';simp
 refine Judge.oper V (BF K hw) (by simpa using U.1) (.inr fun c ae=>by cases ae) ?_;have ag:lp P (execOp (AY T) ⟨d,.call ⟨.value x,args,ats⟩,ty,p,af,g⟩) s (upon J Q b T ds ops i rest k cs d) (Kl J Q b T ds ops i rest k cs):=by
  have ah:execOp (AY T) ⟨d,.call ⟨.value x,args,ats⟩,ty,p,af,g⟩=(do let d ← Deferred.ofValue O vs.toArray;invoke d.target d.args):=by
   simp only [execOp,resolve,ac,K.Ee _ _ Y]
  rw [ah];refine BS _ (aa Q (fr b T ds (.inRegion ops (i::rest)::k)) cs fun v s' ai=>?_) (fun nx s' h=>?_) (fun _ _ h=>h.elim)
  ·rw [D7 (o:=⟨d,.call ⟨.value x,args,ats⟩,ty,p,af,g⟩) _ _ _ _ _ V];exact ab v s' ai _ (K.put U.2 v)
  ·cases nx <;> first | exact h | exact h.elim
 exact ag
theorem G0{x:Operand}{O:Value}{args:Array Operand}{ats:Array TypeId}{vs:List Value}{seg:Seg}{R:Value→LH→Seg→Prop}(j:Nat)
  (ab:C7 J O vs E seg R) (ac:ops[i]? =some ⟨d,.call ⟨.value x,args,ats⟩,ty,p,af,g⟩) (hw:Az L ops ⟨d,.call ⟨.value x,args,ats⟩,ty,p,af,g⟩=some true) (ae:((b.kind != .early)&&AQ n d)=true)
  (K:ev L x=some O) (ag:evs L args.toList=some vs) (hN:NdS E H S) (U:S[j]? =some seg) (ah:∀v E' seg',Le E E'→R v E' seg'→NdS E' H (S.set j seg')→JL J Q b n (Aj L d v) ds (.inRegion ops rest::k) cs (mkS E' H (S.set j seg'))):
  JL J Q b n L ds (.inRegion ops (i::rest)::k) cs (mkS E H S):=by
 have V:S.flatten.Perm (seg++(S.set j []).flatten):=(Cz (seg':=seg) U).1.trans List.perm_append_comm;have Y:Nd E H (seg++(S.set j []).flatten):=Nd.perm hN V;have ai:mkS E H S=mk E (AB (S.set j []).flatten H) seg:=by
  rw [show mkS E H S=mk E H S.flatten from rfl,Dp hN V];unfold mk;rw [DU]
 rw [ai];refine Q2 ac hw ae K ag (ab _ (Nd.front Y)) ?_;rintro v s' ⟨E',B',hle,aj,ak,rfl⟩;have al:mk E' (AB (S.set j []).flatten H) B'=mk E' H (B'++(S.set j []).flatten):=by unfold mk;rw [DU]
 have am:Nd E H (S.set j []).flatten:=by
  have:=Y;rw [Nd.iff] at this ⊢;rw [List.map_append,List.nodup_append] at this;exact⟨this.1.2.1,fun q an=>this.2 q (List.mem_append_right _ an)⟩
 refine OP rfl fun⟨w,ao⟩=>?_;have ap:Nd E' H (S.set j []).flatten:=am.grow fun x K=>by
  have aq:=ao.d x K;have ar:AB B' (AB (S.set j []).flatten H) x=none:=aq;exact(ED ar).1
 have Z:Nd E' H (B'++(S.set j []).flatten):=Nd.glue ak ap;rw [al];have aa:(B'++(S.set j []).flatten).Perm (S.set j B').flatten:=List.perm_append_comm.trans (Cz U).2.symm;rw [Dp Z aa];exact ah v E' B' hle aj (Nd.perm Z aa)
theorem Nr{bks:List Nat}{m fuel:Nat}{listed:Array Bool}{f:FuncId}{args:Array Operand}{ats:Array TypeId}{vs:List Value}{seg:Seg}{R:Value→LH→Seg→Prop}(j:Nat)(ah:Es S bks)(ai:Al J f vs E seg R)(aj:∀v E' B',R v E' B'→B'=seg)(ak:Region.ready .any ops listed= [i])
  (al:ops[i]? =some ⟨d,.call ⟨.value (.func f),args,ats⟩,ty,p,af,g⟩) (am:AQ n d=true) (hw:Az L ops ⟨d,.call ⟨.value (.func f),args,ats⟩,ty,p,af,g⟩=some true) (hb:Ch P f=true) (an:evs L args.toList=some vs) (hN:NdS E H S) (ao:S[j]? =some seg)
  (ap:∀v E',Le E E'→R v E' seg→NdS E' H S→JAL J Q b n ds ops k cs m (Ak bks) fuel (AF listed i) (Aj L d v) (mkS E' H S)):
  JAL J Q b n ds ops k cs m (Ak bks) (fuel+1) listed L (mkS E H S):=by
 have O:S.flatten.Perm (seg++(S.set j []).flatten):=(Cz (seg':=seg) ao).1.trans List.perm_append_comm;have Z:Nd E H (seg++(S.set j []).flatten):=Nd.perm hN O;have aq:mkS E H S=mk E (AB (S.set j []).flatten H) seg:=by
  rw [show mkS E H S=mk E H S.flatten from rfl,Dp hN O];unfold mk;rw [DU]
 have aa:=Co.HA (ai (AB (S.set j []).flatten H) (Nd.front Z)) (by rintro v s' ⟨E',B',_,_,_,rfl⟩;rfl);rw [← aq] at aa;refine JAL.call rfl ak al am hw hb an aa ?_;rintro v aC ⟨⟨E',B',hle,ab,ar,rfl⟩,w,au⟩;obtain rfl:=aj _ _ _ ab;have av:mk E' (AB (S.set j []).flatten H) B'=mk E' H (B'++(S.set j []).flatten):=by unfold mk;rw [DU]
 have aw:Nd E H (S.set j []).flatten:=by
  have:=Z;rw [Nd.iff] at this ⊢;rw [List.map_append,List.nodup_append] at this;exact⟨this.1.2.1,fun q ay=>this.2 q (List.mem_append_right _ ay)⟩
 have az:Nd E' H (S.set j []).flatten:=aw.grow fun x U=>by
  have aA:=au.d x U;have V:AB B' (AB (S.set j []).flatten H) x=none:=aA;exact(ED V).1
 have ac:Nd E' H (B'++(S.set j []).flatten):=Nd.glue ar az;have ae:NdS E' H S:=Nd.perm ac O.symm;rw [av,Dp ac O.symm];refine⟨rfl,fun x o U=>?_,ap v E' hle ab ae⟩;by_cases Y:Ak bks x=true
 ·obtain⟨aD,o',ag⟩:=ah.mem x (by simpa [Ak] using Y);have V:(mkS E H S).get x=some o':=C5 (i:=0) hN ag rfl;have aB:(mkS E' H S).get x=some o':=C5 (i:=0) ae ag rfl;have K:(if Ak bks x then(mkS E H S).get x else E x)=some o:=U
  show(if Ak bks x then(mkS E' H S).get x else E' x)=some o
  rw [if_pos Y] at K ⊢;rw [aB,← V];exact K
 ·have K:(if Ak bks x then(mkS E H S).get x else E x)=some o:=U
  show(if Ak bks x then(mkS E' H S).get x else E' x)=some o
  rw [if_neg Y] at K ⊢;exact hle _ _ K
theorem Take.V3{bks:List Nat}{m fuel:Nat}{listed:Array Bool}{f:FuncId}{args:Array Operand}{ats:Array TypeId}{vs:List Value}{R:Value→LH→Seg→Prop}(ae:Es S bks)(hN:NdS E H S)(ag:Al J f vs E [] R)
  (ah:ops[i]? =some ⟨d,.call ⟨.value (.func f),args,ats⟩,ty,p,af,g⟩) (hw:Az L ops ⟨d,.call ⟨.value (.func f),args,ats⟩,ty,p,af,g⟩=some true) (ai:AQ n d=true) (hb:Ch P f=true) (aj:evs L args.toList=some vs)
  (ak:∀v E' seg',Le E E'→R v E' seg'→NdS E' H (S++ [seg'])→JAL J Q b n ds ops k cs m (Ak bks) fuel (AF listed i) (Aj L d v) (mkS E' H (S++ [seg']))):
  Take J Q b n ds ops k cs m (Ak bks) fuel listed L (mkS E H S) i:=by
 have al:=Co.HA (ag (AB S.flatten H) trivial) (by rintro v s' ⟨E',B',_,_,_,rfl⟩;rfl);refine⟨_,ah,by simp [B5],ai,hw,fun ρ Z=>?_⟩;have am:args.map ρ=vs.toArray:=by
  rw [← DV Z aj];apply Array.ext';simp
 have an:ρ (.func f)= .func (.func f) #[] #[]:=Z _ _ rfl;simp only [execOp,resolve,bind,Sem.bind,Deferred.ofValue,an,pure,invoke];have e: #[]++args.map ρ++ #[]=vs.toArray:=by rw [am];simp
 rw [e];refine GX hb ?_;rw [HP];refine⟨_,al,?_⟩;rintro v az ⟨⟨E',B',hle,ao,ap,rfl⟩,w,aq⟩;have ar:mk E' (AB S.flatten H) B'=mk E' H (B'++S.flatten):=by unfold mk;rw [DU]
 have au:Nd E' H S.flatten:=Nd.grow hN fun x O=>by
  have av:=aq.d x O;have U:AB B' (AB S.flatten H) x=none:=av;exact(ED U).1
 have aa:Nd E' H (B'++S.flatten):=Nd.glue ap au;have ab:(B'++S.flatten).Perm (S++ [B']).flatten:=by rw [EF];exact List.perm_append_comm
 have ac:NdS E' H (S++ [B']):=Nd.perm aa ab;rw [ar,Dp aa ab];refine⟨rfl,fun x o O=>?_,ak v E' B' hle ao ac⟩;by_cases V:Ak bks x=true
 ·obtain⟨j,o',Y⟩:=ae.mem x (by simpa [Ak] using V);have U:(mkS E H S).get x=some o':=C5 (i:=0) hN Y rfl;have aw:j<S.length:=(List.getElem?_eq_some_iff.1 Y).1;have ay:(mkS E' H (S++ [B'])).get x=some o':=C5 (i:=0) ac (by rw [List.getElem?_append_left aw];exact Y) rfl;have K:(if Ak bks x then(mkS E H S).get x else E x)=some o:=O
  show(if Ak bks x then(mkS E' H (S++ [B'])).get x else E' x)=some o
  rw [if_pos V] at K ⊢;rw [ay,← U];exact K
 ·have K:(if Ak bks x then(mkS E H S).get x else E x)=some o:=O
  show(if Ak bks x then(mkS E' H (S++ [B'])).get x else E' x)=some o
  rw [if_neg V] at K ⊢;exact hle _ _ K
theorem Take.call0{m fuel:Nat}{listed:Array Bool}{f:FuncId}{args:Array Operand}{ats:Array TypeId}{vs:List Value}{R:Value→LH→Seg→Prop}(hN:NdS E H S)(O:Al J f vs E [] R)
  (U:ops[i]? =some ⟨d,.call ⟨.value (.func f),args,ats⟩,ty,p,af,g⟩) (hw:Az L ops ⟨d,.call ⟨.value (.func f),args,ats⟩,ty,p,af,g⟩=some true) (V:AQ n d=true) (hb:Ch P f=true) (Y:evs L args.toList=some vs)
  (K:∀v E' seg',Le E E'→R v E' seg'→NdS E' H (S++ [seg'])→JAL J Q b n ds ops k cs m CP fuel (AF listed i) (Aj L d v) (mkS E' H (S++ [seg']))):
  Take J Q b n ds ops k cs m CP fuel listed L (mkS E H S) i:=by
 have e:Ak []=CP:=by funext x;rfl
 rw [← e] at K ⊢;exact Take.V3 (bks:= []) trivial hN O U hw V hb Y K
end
end Pal
