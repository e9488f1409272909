/- ToothCheat answers true for every list of numbers, on every schedule; without a condition beyond those of the given row and card. Part 1 of 8. -/
import Derived.Conc.Own5
import Derived.Conc.Listed
import Derived.Conc.DeferLaws
import Derived.Orders
set_option linter.all false
set_option maxRecDepth 100000
namespace Pal
open Go Go.Conc
abbrev LH:=Nat→Option Obj
structure St where
 E:LH
 H:LH
 q:Bool
def St.get(s:St)(b:Nat):Option Obj:=match s.E b with | some o=>some o | none=>s.H b
structure Fits (s:St) (w:World):Prop where
 e:∀b o,s.E b=some o→w.heap[b]? =some o
 h:∀b o,s.H b=some o→w.heap[b]? =some o
 d:∀b,s.E b≠none→s.H b=none
theorem Fits.get{s:St}{w:World}(f:Fits s w){b:Nat}{o:Obj}(h:s.get b=some o):w.heap[b]? =some o:=by
 unfold St.get at h;split at h
 ·rename_i o' A;cases h;exact f.e _ _ A
 ·exact f.h _ _ h
theorem Fits.Nb{s:St}{w:World}(f:Fits s w){b:Nat}{o:Obj}(h:s.H b=some o):b<w.heap.size:=by
 have:=f.h _ _ h;rcases Nat.lt_or_ge b w.heap.size with A | A
 ·exact A
 ·simp [Array.getElem?_eq_none A] at this
theorem Fits.lt{s:St}{w:World}(f:Fits s w){b:Nat}{o:Obj}(h:s.get b=some o):b<w.heap.size:=by
 have:=f.get h;rcases Nat.lt_or_ge b w.heap.size with A | A
 ·exact A
 ·simp [Array.getElem?_eq_none A] at this
def cellAt(o:Obj)(a:Addr):Option Value:=match o with | .cells c _ _=>if a.spot.isSome then none else c[a.off]? | _=>none
def frozenAt(o:Obj)(a:Addr):Bool:=match o with | .cells _ _ (lo,hi)=>lo≤a.off&&a.off<hi | _=>false
def shapeOf(o:Obj):Option (TypeId×Nat):=match o with | .cells c e _=>some (e,c.size) | _=>none
def Bs:Value→Bool | .agg _ | .tuple _=>false | _=>true
def FX(o:Obj)(a:Addr)(v:Value):Obj:=match o with | .cells c e f=> .cells (if a.spot.isSome then c else c.setIfInBounds a.off v) e f | o=>o
def Fo(o:Obj):Bool:=match o with | .cells ..=>false | .chan ..=>false | .pending ..=>false | .view ..=>false | .number ..=>false | _=>true
def St.cell? (s:St)(a:Addr):Option Value:=(s.get a.block).bind (cellAt · a)
def St.upd(s:St)(b:Nat)(o:Obj):St:={s with H:=fun x=>if x=b then some o else s.H x}
theorem Km{w:World}{a:Addr}{o:Obj}(h:w.heap[a.block]? =some o):w.cell? a=cellAt o a:=by
 unfold World.cell? cellAt;rw [h];cases o <;> rfl
theorem J6{w:World}{a:Addr}{o:Obj}(h:w.heap[a.block]? =some o):w.frozen? a=frozenAt o a:=by
 unfold World.frozen? frozenAt;rw [h];cases o <;> rfl
theorem ND{w:World}{b:Nat}{o:Obj}(h:w.heap[b]? =some o):w.shape? b=shapeOf o:=by
 unfold World.shape? shapeOf;rw [h];cases o <;> rfl
def lp(P:Program){α:Type}:Sem α→St→(α→St→Prop)→(Halt→St→Prop)→Prop
 | .pure a,s,Q,_=>Q a s
 | .load m a k,s,Q,X=>m= .plain∧∃v,s.cell? a=some v∧lp P (k v) s Q X
 | .store m a v k,s,Q,X=>m= .plain∧Bs v=true∧∃o,s.H a.block=some o∧(cellAt o a).isSome=true∧frozenAt o a=false∧lp P k (s.upd a.block (FX o a v)) Q X
 | .new o k,s,Q,X=>s.q=false∧∀r,s.E r=none→s.H r=none→lp P (k r) (s.upd r o) Q X
 | .shape r k,s,Q,X=>∃o,s.get r=some o∧lp P (k (shapeOf o)) s Q X
 | .freeze _ _ _,_,_,_=>False
 | .frozen a k,s,Q,X=>∃o,s.get a.block=some o∧lp P (k (frozenAt o a)) s Q X
 | .getObj r k,s,Q,X=>∃o,s.get r=some o∧Fo o=true∧lp P (k o) s Q X
 | .setObj r o k,s,Q,X=>(∃o₀,s.H r=some o₀∧Fo o₀=true)∧Fo o=true∧lp P k (s.upd r o) Q X
 | .choose q k,s,Q,X=>if q.forced then lp P (k 0) s Q X else s.q=false∧∀t,lp P (k (q.cut t)) s Q X
 | .sys _ _,_,_,_=>False
 | .program k,s,Q,X=>lp P (k P) s Q X
 | .mark m k,s,Q,X=>((s.q=false∧m= .noRoom)∨∃f,m= .extern f)∧lp P k s Q X
 | .halt h,s,_,X=>X h s
theorem BV{P:Program}{α:Type}(x:Sem α):∀{s:St} {Q U:α→St→Prop} {X W:Halt→St→Prop},lp P x s Q X→(∀a s,Q a s→U a s)→(∀h s,X h s→W h s)→lp P x s U W:=by
 induction x with
 | pure a=>intro s Q U X W h A K;exact A _ _ h
 | load m a k O=>intro s Q U X W h A K;obtain⟨Z,v,aa,ab⟩:=h;exact⟨Z,v,aa,O _ ab A K⟩
 | store m a v k O=>intro s Q U X W h A K;obtain⟨Z,aa,o,ab,ae,ag,ah⟩:=h;exact⟨Z,aa,o,ab,ae,ag,O ah A K⟩
 | new o k O=>intro s Q U X W h A K;exact⟨h.1,fun r Z aa=>O _ (h.2 r Z aa) A K⟩
 | shape r k O=>intro s Q U X W h A K;obtain⟨o,Z,aa⟩:=h;exact⟨o,Z,O _ aa A K⟩
 | freeze a n k O=>intro s Q U X W h A K;exact h
 | frozen a k O=>intro s Q U X W h A K;obtain⟨o,Z,aa⟩:=h;exact⟨o,Z,O _ aa A K⟩
 | getObj r k O=>intro s Q U X W h A K;obtain⟨o,Z,aa,ab⟩:=h;exact⟨o,Z,aa,O _ ab A K⟩
 | setObj r o k O=>intro s Q U X W h A K;obtain⟨Z,aa,ab⟩:=h;exact⟨Z,aa,O ab A K⟩
 | choose q k O=>
  intro s Q U X W h A K;simp only [lp] at h ⊢;split
  ·rename_i ac;rw [if_pos ac] at h;exact O _ h A K
  ·rename_i ac;rw [if_neg ac] at h;exact⟨h.1,fun t=>O _ (h.2 t) A K⟩
 | sys c k O=>intro s Q U X W h A K;exact h
 | program k O=>intro s Q U X W h A K;exact O _ h A K
 | mark m k O=>intro s Q U X W h A K;exact⟨h.1,O h.2 A K⟩
 | halt h=>intro s Q U X W h A K;exact K _ _ h
theorem AF{P:Program}{α β:Type}(x:Sem α)(f:α→Sem β):∀{s:St} {Q:β→St→Prop} {X:Halt→St→Prop},lp P x s (fun a s'=>lp P (f a) s' Q X) X→lp P (x>>=f) s Q X:=by
 show ∀{s:St} {Q:β→St→Prop} {X:Halt→St→Prop},lp P x s (fun a s'=>lp P (f a) s' Q X) X→lp P (Sem.bind x f) s Q X
 induction x with
 | pure a=>intro s Q X h;exact h
 | load m a k A=>intro s Q X h;obtain⟨K,v,O,U⟩:=h;exact⟨K,v,O,A _ U⟩
 | store m a v k A=>intro s Q X h;obtain⟨K,O,o,U,Z,aa,ab⟩:=h;exact⟨K,O,o,U,Z,aa,A ab⟩
 | new o k A=>intro s Q X h;exact⟨h.1,fun r K O=>A _ (h.2 r K O)⟩
 | shape r k A=>intro s Q X h;obtain⟨o,K,O⟩:=h;exact⟨o,K,A _ O⟩
 | freeze a n k A=>intro s Q X h;exact h
 | frozen a k A=>intro s Q X h;obtain⟨o,K,O⟩:=h;exact⟨o,K,A _ O⟩
 | getObj r k A=>intro s Q X h;obtain⟨o,K,O,U⟩:=h;exact⟨o,K,O,A _ U⟩
 | setObj r o k A=>intro s Q X h;obtain⟨K,O,U⟩:=h;exact⟨K,O,A U⟩
 | choose q k A=>
  intro s Q X h;simp only [lp,Sem.bind] at h ⊢;split
  ·rename_i W;rw [if_pos W] at h;exact A _ h
  ·rename_i W;rw [if_neg W] at h;exact⟨h.1,fun t=>A _ (h.2 t)⟩
 | sys c k A=>intro s Q X h;exact h
 | program k A=>intro s Q X h;exact A _ h
 | mark m k A=>intro s Q X h;exact⟨h.1,A h.2⟩
 | halt h=>intro s Q X h;exact h
structure Fr (s:St) (w:World) (s':St) (w':World):Prop where
 size:w.heap.size≤w'.heap.size
 keep:∀b,b<w.heap.size→s.H b=none→w'.heap[b]? =w.heap[b]?
 own:∀b,s'.H b≠none→s.H b≠none∨w.heap.size≤b
 ext:∀b o,s.E b=some o→s'.E b=some o
 Ct:∀b,s'.E b≠none→s.E b≠none∨s.H b≠none∨w.heap.size≤b
 tape:w'.tape=w.tape
 os:w'.os=w.os
 output:w'.output=w.output
theorem Fr.refl(s:St)(w:World):Fr s w s w:=
 ⟨Nat.le_refl _,fun _ _ _=>rfl,fun _ h=> .inl h,fun _ _ h=>h,fun _ h=> .inl h,rfl,rfl,rfl⟩
theorem Fr.trans{s A K:St}{w O U:World}(h:Fr s w A O)(k:Fr A O K U):Fr s w K U where
 size:=Nat.le_trans h.size k.size
 keep b hb W:=by
  rw [k.keep b (Nat.lt_of_lt_of_le hb h.size) ?_,h.keep b hb W];by_cases Z:A.H b=none
  ·exact Z
  ·rcases h.own b Z with x | x
   ·exact absurd W x
   ·omega
 own b hb:=by
  rcases k.own b hb with x | x
  ·exact h.own b x
  ·exact .inr (Nat.le_trans h.size x)
 ext b o aa:=k.ext b o (h.ext b o aa)
 Ct b hb:=by
  rcases k.Ct b hb with x | x | x
  ·exact h.Ct b x
  ·rcases h.own b x with y | y
   ·exact .inr (.inl y)
   ·exact .inr (.inr y)
  ·exact .inr (.inr (Nat.le_trans h.size x))
 tape:=k.tape.trans h.tape
 os:=k.os.trans h.os
 output:=k.output.trans h.output
def Dq(s:St)(w w':World)(b:Nat)(write:Bool):Prop:=
 b<w'.heap.size∧(s.H b≠none∨w.heap.size≤b∨(s.E b≠none∧write=false))
def Ev(s:St)(w w':World)(e:Event):Prop:=
 match e.loc with
 | .cell a=>e.sync=false∧Dq s w w' a.block e.write
 | .obj r=>e.sync=false∧Dq s w w' r e.write
 | .mark (.extern _)=>True
 | .mark .noRoom=>True
 | _=>False
theorem Dq.mono{s A:St}{w K w' O:World}{b:Nat}{wr:Bool}(h:Fr s w A K)(hs:w'.heap.size≤O.heap.size)(t:Dq A K w' b wr):Dq s w O b wr:=by
 refine⟨Nat.lt_of_lt_of_le t.1 hs,?_⟩;rcases t.2 with x | x | ⟨x,y⟩
 ·rcases h.own b x with z | z
  ·exact .inl z
  ·exact .inr (.inl z)
 ·exact .inr (.inl (Nat.le_trans h.size x))
 ·rcases h.Ct b x with z | z | z
  ·exact .inr (.inr ⟨z,y⟩)
  ·exact .inl z
  ·exact .inr (.inl z)
theorem Ev.mono{s A:St}{w K w' O:World}{e:Event}(h:Fr s w A K)(hs:w'.heap.size≤O.heap.size)(t:Ev A K w' e):Ev s w O e:=by
 unfold Ev at t ⊢;split <;> rename_i he <;> simp only [he] at t
 ·exact⟨t.1,t.2.mono h hs⟩
 ·exact⟨t.1,t.2.mono h hs⟩
 ·trivial
 ·trivial
def F0{α:Type}:Result α→World | .ok _ w=>w | .halt _ w=>w
def Qd{α:Type}(Q:α→St→Prop)(X:Halt→St→Prop)(s:St):Result α→Prop | .ok a _=>Q a s | .halt h _=>X h s
theorem KT{s:St}{b:Nat}{o:Obj}(h:s.get b=some o)(A:s.H b=none):s.E b≠none:=by
 intro e;unfold St.get at h;rw [e] at h;simp only at h;rw [A] at h;cases h
theorem IT{s:St}{w w':World}{b:Nat}{o:Obj}(f:Fits s w)(O:s.E b=none)(hb:w'.heap[b]? =some o)(U:∀c,c≠b→∀x,w.heap[c]? =some x→w'.heap[c]? =some x):Fits (s.upd b o) w' where
 e c x A:=by
  have K:c≠b:=fun e=>by subst e;simp [St.upd] at A;rw [O] at A;cases A
  exact U c K x (f.e c x A)
 h c x A:=by
  simp only [St.upd] at A;split at A
  ·rename_i e;subst e;cases A;exact hb
  ·rename_i K;exact U c K x (f.h c x A)
 d c A:=by
  have K:c≠b:=fun e=>by subst e;exact A O
  simp only [St.upd,if_neg K];exact f.d c A
theorem Sr{α:Type}(P:Program)(x:Sem α)(w:World)(es:Array Event)(e:Event)(h:e∈es):e∈x.events P w es:=by
 rw [Sem.events_acc];exact Array.mem_append.2 (.inl h)
theorem HE{P:Program}{α:Type}(x:Sem α):∀{s:St} {w:World} {Q:α→St→Prop} {X:Halt→St→Prop},lp P x s Q X→Fits s w→
  ∃s',Fits s' (F0 (x.run P w))∧Fr s w s' (F0 (x.run P w))∧(∀e∈x.events P w #[],Ev s w (F0 (x.run P w)) e)∧Qd Q X s' (x.run P w):=by
 induction x with
 | pure a=>intro s w Q X h f;exact⟨s,f,.refl _ _,by simp [Sem.events_pure'],h⟩
 | load m a k K=>
  intro s w Q X h f;obtain⟨rfl,v,ap,h⟩:=h;obtain⟨o,A,aC⟩:=Option.bind_eq_some_iff.1 ap;have hw:=f.get A;have aq:w.cell? a=some v:=by rw [Km hw,aC]
  have O:(Sem.load Mode.plain a k).run P w=(k v).run P w:=by simp [Sem.run,aq]
  have U:(Sem.load Mode.plain a k).events P w #[]= #[⟨.cell a,false,false⟩]++(k v).events P w #[]:=by
   rw [← Sem.events_acc];simp only [Sem.events,Sem.runT,aq];rfl
  rw [O,U];obtain⟨s',Z,W,aa,ab⟩:=K v h f;refine⟨s',Z,W,fun e he=>?_,ab⟩;rcases Array.mem_append.1 he with he | he
  ·simp at he;subst he;refine⟨rfl,Nat.lt_of_lt_of_le (f.lt A) W.size,?_⟩;by_cases ak:s.H a.block=none
   ·refine .inr (.inr ⟨?_,rfl⟩);exact KT A ak
   ·exact .inl ak
  ·exact aa e he
 | store m a v k K=>
  intro s w Q X h f;obtain⟨rfl,ap,o,A,aq,aD,h⟩:=h;have hw:=f.h _ _ A;obtain⟨u,hu⟩:=Option.isSome_iff_exists.1 aq;have ay:w.cell? a=some u:=by rw [Km hw,hu]
  have az:w.frozen? a=false:=by rw [J6 hw,aD]
  have ar:=f.Nb A;obtain⟨av,aw,f0,rfl⟩:∃c e f,o= .cells c e f:=by cases o <;> simp [cellAt] at hu;exact⟨_,_,_,rfl⟩
  have aE:(w.setCell a v).heap[a.block]? =some (FX (.cells av aw f0) a v):=by
   simp [World.setCell,FX,Array.getElem?_modify,hw]
  have al:∀c,c≠a.block→(w.setCell a v).heap[c]? =w.heap[c]? :=by
   intro c ag;simp [World.setCell,Array.getElem?_modify,Ne.symm ag]
  have ae:s.E a.block=none:=by
   cases ae:s.E a.block with
   | none=>rfl
   | some x=>have:=f.d a.block (by rw [ae];simp);rw [A] at this;cases this
  have am:Fits (s.upd a.block (FX (.cells av aw f0) a v)) (w.setCell a v):=IT f ae aE (fun c ag x ah=>by rw [al c ag];exact ah);have O:(Sem.store Mode.plain a v k).run P w=k.run P (w.setCell a v):=by
   cases v <;> first | (simp [Bs] at ap;done) | simp [Sem.run,ay,az]
  have U:(Sem.store Mode.plain a v k).events P w #[]= #[⟨.cell a,true,false⟩]++k.events P (w.setCell a v) #[]:=by
   rw [← Sem.events_acc];cases v <;> first | (simp [Bs] at ap;done) | (simp only [Sem.events,Sem.runT,ay,az];rfl)
  have ac:Fr s w (s.upd a.block (FX (.cells av aw f0) a v)) (w.setCell a v):=by
   refine⟨by simp [World.setCell],fun b hb ai=>al b (fun e=>by subst e;rw [A] at ai;cases ai),fun b hb=>?_,fun _ _ h=>h,fun _ h=> .inl h,rfl,rfl,rfl⟩;simp only [St.upd] at hb;split at hb
   ·rename_i e;subst e;exact .inl (by rw [A];simp)
   ·exact .inl hb
  rw [O,U];obtain⟨s',Z,W,aa,ab⟩:=K h am;refine⟨s',Z,ac.trans W,fun e he=>?_,ab⟩;rcases Array.mem_append.1 he with he | he
  ·simp at he;subst he;exact⟨rfl,Nat.lt_of_lt_of_le ar (ac.trans W).size,.inl (by rw [A];simp)⟩
  ·exact(aa e he).mono ac (Nat.le_refl _)
 | new o k K=>
  intro s w Q X h f;have aA:s.E w.heap.size=none:=by
   cases ae:s.E w.heap.size with
   | none=>rfl
   | some x=>have:=f.e _ _ ae;simp at this
  have aF:s.H w.heap.size=none:=by
   cases ae:s.H w.heap.size with
   | none=>rfl
   | some x=>have:=f.h _ _ ae;simp at this
  have O:(Sem.new o k).run P w=(k w.heap.size).run P {w with heap:=w.heap.push o}:=by simp [Sem.run]
  have U:(Sem.new o k).events P w #[]=(k w.heap.size).events P {w with heap:=w.heap.push o} #[]:=by simp only [Sem.events,Sem.runT]
  rw [O,U];have am:Fits (s.upd w.heap.size o) {w with heap:=w.heap.push o}:=IT f aA (by simp) (fun c ag x ah=>by
   have:c<w.heap.size:=by
    rcases Nat.lt_or_ge c w.heap.size with an | an
    ·exact an
    ·simp [Array.getElem?_eq_none an] at ah
   simp [Array.getElem?_push,Nat.ne_of_lt this,ah])
  have ac:Fr s w (s.upd w.heap.size o) {w with heap:=w.heap.push o}:=by
   refine⟨by simp,fun b hb ai=>by simp [Array.getElem?_push,Nat.ne_of_lt hb],fun b hb=>?_,fun _ _ h=>h,fun _ h=> .inl h,rfl,rfl,rfl⟩;simp only [St.upd] at hb;split at hb
   ·rename_i e;subst e;exact .inr (Nat.le_refl _)
   ·exact .inl hb
  obtain⟨s',Z,W,aa,ab⟩:=K _ (h.2 _ aA aF) am;exact⟨s',Z,ac.trans W,fun e he=>(aa e he).mono ac (Nat.le_refl _),ab⟩
 | shape r k K=>
  intro s w Q X h f;obtain⟨o,A,h⟩:=h;have ao:=ND (f.get A);have O:(Sem.shape r k).run P w=(k (shapeOf o)).run P w:=by simp [Sem.run,ao]
  have U:(Sem.shape r k).events P w #[]=(k (shapeOf o)).events P w #[]:=by simp only [Sem.events,Sem.runT,ao]
  rw [O,U];exact K _ h f
 | freeze a n k K=>intro s w Q X h f;exact h.elim
 | frozen a k K=>
  intro s w Q X h f;obtain⟨o,A,h⟩:=h;have ao:=J6 (a:=a) (f.get A);have O:(Sem.frozen a k).run P w=(k (frozenAt o a)).run P w:=by simp [Sem.run,ao]
  have U:(Sem.frozen a k).events P w #[]=(k (frozenAt o a)).events P w #[]:=by simp only [Sem.events,Sem.runT,ao]
  rw [O,U];exact K _ h f
 | getObj r k K=>
  intro s w Q X h f;obtain⟨o,A,au,h⟩:=h;have hw:=f.get A;have O:(Sem.getObj r k).run P w=(k o).run P w:=by cases o <;> simp [Fo] at au <;> simp [Sem.run,hw]
  have U:(Sem.getObj r k).events P w #[]= #[⟨.obj r,false,false⟩]++(k o).events P w #[]:=by
   rw [← Sem.events_acc];cases o <;> simp [Fo] at au <;> (simp only [Sem.events,Sem.runT,hw,Obj.isChan];rfl)
  rw [O,U];obtain⟨s',Z,W,aa,ab⟩:=K o h f;refine⟨s',Z,W,fun e he=>?_,ab⟩;rcases Array.mem_append.1 he with he | he
  ·simp at he;subst he;refine⟨rfl,Nat.lt_of_lt_of_le (f.lt A) W.size,?_⟩;by_cases ak:s.H r=none
   ·refine .inr (.inr ⟨?_,rfl⟩);exact KT A ak
   ·exact .inl ak
  ·exact aa e he
 | setObj r o k K=>
  intro s w Q X h f;obtain⟨⟨o₀,A,aB⟩,au,h⟩:=h;have hw:=f.h _ _ A;have ar:=f.Nb A;have ae:s.E r=none:=by
   cases ae:s.E r with
   | none=>rfl
   | some x=>have:=f.d r (by rw [ae];simp);rw [A] at this;cases this
  have O:(Sem.setObj r o k).run P w=k.run P {w with heap:=w.heap.setIfInBounds r o}:=by
   cases o₀ <;> simp [Fo] at aB <;> simp [Sem.run,hw]
  have U:(Sem.setObj r o k).events P w #[]= #[⟨.obj r,true,false⟩]++k.events P {w with heap:=w.heap.setIfInBounds r o} #[]:=by
   rw [← Sem.events_acc];cases o₀ <;> simp [Fo] at aB <;> cases o <;> simp [Fo] at au <;> (simp only [Sem.events,Sem.runT,hw,Obj.isChan];rfl)
  have al:∀c,c≠r→(w.heap.setIfInBounds r o)[c]? =w.heap[c]? :=fun c ag=>by simp [Ne.symm ag]
  have am:Fits (s.upd r o) {w with heap:=w.heap.setIfInBounds r o}:=IT f ae (by simp [ar]) (fun c ag x ah=>by show(w.heap.setIfInBounds r o)[c]? =_;rw [al c ag];exact ah);have ac:Fr s w (s.upd r o) {w with heap:=w.heap.setIfInBounds r o}:=by
   refine⟨by simp,fun b hb ai=>al b (fun e=>by subst e;rw [A] at ai;cases ai),fun b hb=>?_,fun _ _ h=>h,fun _ h=> .inl h,rfl,rfl,rfl⟩;simp only [St.upd] at hb;split at hb
   ·rename_i e;subst e;exact .inl (by rw [A];simp)
   ·exact .inl hb
  rw [O,U];obtain⟨s',Z,W,aa,ab⟩:=K h am;refine⟨s',Z,ac.trans W,fun e he=>?_,ab⟩;rcases Array.mem_append.1 he with he | he
  ·simp at he;subst he;exact⟨rfl,Nat.lt_of_lt_of_le ar (ac.trans W).size,.inl (by rw [A];simp)⟩
  ·exact(aa e he).mono ac (Nat.le_refl _)
 | choose q k K=>
  intro s w Q X h f;simp only [lp] at h;by_cases aj:q.forced
  ·rw [if_pos aj] at h;have O:(Sem.choose q k).run P w=(k 0).run P w:=by simp [Sem.run,aj]
   have U:(Sem.choose q k).events P w #[]=(k 0).events P w #[]:=by simp only [Sem.events,Sem.runT];rw [if_pos aj]
   rw [O,U];exact K _ h f
  ·rw [if_neg aj] at h;have O:(Sem.choose q k).run P w=(k (q.cut (w.tape w.drawn q))).run P {w with drawn:=w.drawn+1}:=by simp [Sem.run,aj]
   have U:(Sem.choose q k).events P w #[]=(k (q.cut (w.tape w.drawn q))).events P {w with drawn:=w.drawn+1} #[]:=by simp only [Sem.events,Sem.runT];rw [if_neg aj]
   rw [O,U];have ac:Fr s w s {w with drawn:=w.drawn+1}:=⟨Nat.le_refl _,fun _ _ _=>rfl,fun _ h=> .inl h,fun _ _ h=>h,fun _ h=> .inl h,rfl,rfl,rfl⟩;obtain⟨s',Z,W,aa,ab⟩:=K _ (h.2 (w.tape w.drawn q)) (⟨f.e,f.h,f.d⟩:Fits s {w with drawn:=w.drawn+1});exact⟨s',Z,ac.trans W,fun e he=>(aa e he).mono ac (Nat.le_refl _),ab⟩
 | sys c k K=>intro s w Q X h f;exact h.elim
 | program k K=>
  intro s w Q X h f;have O:(Sem.program k).run P w=(k P).run P w:=by simp [Sem.run]
  have U:(Sem.program k).events P w #[]=(k P).events P w #[]:=by simp only [Sem.events,Sem.runT]
  rw [O,U];exact K _ h f
 | mark m k K=>
  intro s w Q X h f;have O:(Sem.mark m k).run P w=k.run P w:=by simp [Sem.run]
  have U:(Sem.mark m k).events P w #[]= #[⟨.mark m,false,true⟩]++k.events P w #[]:=by
   rw [← Sem.events_acc];simp only [Sem.events,Sem.runT];rfl
  rw [O,U];obtain⟨hm,h⟩:=h;obtain⟨s',Z,W,aa,ab⟩:=K h f;refine⟨s',Z,W,fun e he=>?_,ab⟩;rcases Array.mem_append.1 he with he | he
  ·simp at he;subst he;rcases hm with⟨_,rfl⟩ | ⟨g,rfl⟩ <;> trivial
  ·exact aa e he
 | halt h=>intro s w Q X an f;exact⟨s,f,.refl _ _,by simp [Sem.events_halt],an⟩
theorem IB{P:Program}{fn:FuncId}{es:Array Event}(h:∀e∈es,∃f,e.loc= .mark (.extern f)):seen P fn es= #[]:=by
 rw [seen_def];have:∀(l:List Event) (q:Bool),(∀e∈l,∃f,e.loc= .mark (.extern f))→(l.foldl (seenStep fun f=>(P.funcs[f]?).any (·.norace)) (q,#[])).2= #[]:=by
  intro l
  induction l with
  | nil=>intro q _;rfl
  | cons e l A=>
   intro q h;obtain⟨f,K⟩:=h e (by simp);rw [List.foldl_cons];have:seenStep (fun f=>(P.funcs[f]?).any (·.norace)) (q,#[]) e=((P.funcs[f]?).any (·.norace),#[]):=by simp [seenStep,K]
   rw [this];exact A _ fun x O=>h x (by simp [O])
 exact this es.toList _ fun e he=>h e (Array.mem_toList_iff.1 he)
def St.quiet:St:=⟨fun _=>none,fun _=>none,true⟩
theorem IQ{P:Program}{α:Type}(x:Sem α):∀{Q:α→St→Prop} {X:Halt→St→Prop},lp P x .quiet Q X→
  ∃es,(∀w,x.events P w #[]=es)∧(∀e∈es,∃f,e.loc= .mark (.extern f))∧((∃a,Q a .quiet∧(∀w,x.run P w= .ok a w))∨(∃a,X a .quiet∧(∀w,x.run P w= .halt a w))):=by
 induction x with
 | pure a=>intro Q X h;exact⟨#[],fun w=>by simp [Sem.events_pure'],by simp,.inl ⟨a,h,fun w=>rfl⟩⟩
 | load m a k A=>intro Q X h;obtain⟨_,v,Z,_⟩:=h;simp [St.cell?,St.get,St.quiet] at Z
 | store m a v k A=>intro Q X h;obtain⟨_,_,o,aa,_⟩:=h;cases aa
 | new o k A=>intro Q X h;cases h.1
 | shape r k A=>intro Q X h;obtain⟨o,K,_⟩:=h;simp [St.get,St.quiet] at K
 | freeze a n k A=>intro Q X h;exact h.elim
 | frozen a k A=>intro Q X h;obtain⟨o,K,_⟩:=h;simp [St.get,St.quiet] at K
 | getObj r k A=>intro Q X h;obtain⟨o,K,_⟩:=h;simp [St.get,St.quiet] at K
 | setObj r o k A=>intro Q X h;obtain⟨⟨o,K,_⟩,_⟩:=h;cases K
 | choose q k A=>
  intro Q X h;simp only [lp] at h;by_cases O:q.forced
  ·rw [if_pos O] at h;have U:∀w,(Sem.choose q k).run P w=(k 0).run P w:=fun w=>by simp [Sem.run,O]
   have W:∀w,(Sem.choose q k).events P w #[]=(k 0).events P w #[]:=fun w=>by simp only [Sem.events,Sem.runT];rw [if_pos O]
   simpa only [U,W] using A _ h
  ·rw [if_neg O] at h;cases h.1
 | sys c k A=>intro Q X h;exact h.elim
 | program k A=>
  intro Q X h;have U:∀w,(Sem.program k).run P w=(k P).run P w:=fun w=>by simp [Sem.run]
  have W:∀w,(Sem.program k).events P w #[]=(k P).events P w #[]:=fun w=>by simp only [Sem.events,Sem.runT]
  simpa only [U,W] using A _ h
 | mark m k A=>
  intro Q X h;obtain⟨hm,h⟩:=h;obtain⟨es,K,Z,aa⟩:=A h;have U:∀w,(Sem.mark m k).run P w=k.run P w:=fun w=>by simp [Sem.run]
  have W:∀w,(Sem.mark m k).events P w #[]= #[⟨.mark m,false,true⟩]++k.events P w #[]:=fun w=>by rw [← Sem.events_acc];simp only [Sem.events,Sem.runT];rfl
  refine⟨#[⟨.mark m,false,true⟩]++es,fun w=>by rw [W,K],fun e he=>?_,by simpa only [U] using aa⟩;rcases Array.mem_append.1 he with he | he
  ·simp at he;subst he;rcases hm with⟨O,_⟩ | hm
   ·cases O
   ·obtain⟨f,rfl⟩:=hm;exact⟨f,rfl⟩
  ·exact Z e he
 | halt h=>intro Q X ab;exact⟨#[],fun w=>by simp [Sem.events_halt],by simp,.inr ⟨h,ab,fun w=>rfl⟩⟩
end Pal
namespace Pal
open Go Go.Conc
def FP(P:Program)(main:Bool)(g:Goroutine)(s:St)(K:Goroutine→St→Prop):Prop:=
 g.status= .running∧(∀w,Fits s w→
  ∃g' s' w' es,stepG P main g w= .go g' w' es∧K g' s'∧Fits s' w'∧Fr s w s' w'∧(∀e∈es,Ev s w w' e))∧
  (s= .quiet→∃g',(∀w,stepG P main g w= .go g' w #[])∧K g' .quiet)
theorem FP.mono{P:Program}{main:Bool}{g:Goroutine}{s:St}{K U:Goroutine→St→Prop}(h:FP P main g s K)(W:∀g s,K g s→U g s):FP P main g s U:=
 ⟨h.1,fun w f=>let ⟨g',s',w',es,A,O,Z⟩:=h.2.1 w f;⟨g',s',w',es,A,W _ _ O,Z⟩,fun e=>let ⟨g',A,O⟩:=h.2.2 e;⟨g',A,W _ _ O⟩⟩
structure BJ (s s₀:St):Prop where
 ext:∀b o,s.E b=some o→s₀.E b=some o
 own:∀b o,s₀.H b=some o→s.H b=some o
 Ct:∀b o,s₀.E b=some o→s.E b=some o∨(s.H b=some o∧s₀.H b=none)
 q:s₀.q=s.q
theorem BJ.refl(s:St):BJ s s:=⟨fun _ _ h=>h,fun _ _ h=>h,fun _ _ h=> .inl h,rfl⟩
theorem BJ.fits{s s₀:St}(g:BJ s s₀){w:World}(f:Fits s w):Fits s₀ w where
 e b o h:=by
  rcases g.Ct b o h with x | x
  ·exact f.e _ _ x
  ·exact f.h _ _ x.1
 h b o h:=f.h _ _ (g.own _ _ h)
 d b h:=by
  cases A:s₀.E b with
  | none=>exact absurd A h
  | some o=>
   rcases g.Ct b o A with x | x
   ·cases K:s₀.H b with
    | none=>rfl
    | some y=>have:=g.own _ _ K;rw [f.d b (by rw [x];simp)] at this;cases this
   ·exact x.2
theorem Er{α:Type}{x:Option α}(h:x≠none):∃a,x=some a:=by cases x <;> simp at h;exact⟨_,rfl⟩
theorem BJ.fr{s s₀ s':St}{w w':World}(g:BJ s s₀)(f:Fr s₀ w s' w'):Fr s w s' w' where
 size:=f.size
 keep b hb K:=f.keep b hb (by
  cases h:s₀.H b with
  | none=>rfl
  | some o=>rw [g.own _ _ h] at K;cases K)
 own b hb:=(f.own b hb).imp (fun h=>by obtain⟨o,A⟩:=Er h;rw [g.own _ _ A];simp) id
 ext b o h:=f.ext _ _ (g.ext _ _ h)
 Ct b hb:=by
  rcases f.Ct b hb with h | h | h
  ·obtain⟨o,A⟩:=Er h;rcases g.Ct _ _ A with x | x
   ·exact .inl (by rw [x];simp)
   ·exact .inr (.inl (by rw [x.1];simp))
  ·obtain⟨o,A⟩:=Er h;exact .inr (.inl (by rw [g.own _ _ A];simp))
  ·exact .inr (.inr h)
 tape:=f.tape
 os:=f.os
 output:=f.output
theorem BJ.Dq{s s₀:St}{w w':World}{b:Nat}{wr:Bool}(g:BJ s s₀)(t:Dq s₀ w w' b wr):Dq s w w' b wr:=by
 refine⟨t.1,?_⟩;rcases t.2 with h | h | ⟨h,hw⟩
 ·obtain⟨o,A⟩:=Er h;exact .inl (by rw [g.own _ _ A];simp)
 ·exact .inr (.inl h)
 ·obtain⟨o,A⟩:=Er h;rcases g.Ct _ _ A with x | x
  ·exact .inr (.inr ⟨by rw [x];simp,hw⟩)
  ·exact .inl (by rw [x.1];simp)
theorem BJ.ev{s s₀:St}{w w':World}{e:Event}(g:BJ s s₀)(t:Ev s₀ w w' e):Ev s w w' e:=by
 unfold Ev at t ⊢;split <;> rename_i he <;> simp only [he] at t
 ·exact⟨t.1,g.Dq t.2⟩
 ·exact⟨t.1,g.Dq t.2⟩
 ·trivial
 ·trivial
theorem BJ.quiet{s₀:St}(g:BJ .quiet s₀):s₀= .quiet:=by
 obtain⟨E,H,q⟩:=s₀;have A:E=fun _=>none:=by
  funext b;cases h:E b with
  | none=>rfl
  | some o=>rcases g.Ct b o h with x | ⟨x,_⟩ <;> cases x
 have K:H=fun _=>none:=by
  funext b;cases h:H b with
  | none=>rfl
  | some o=>cases g.own b o h
 have O:q=true:=g.q;subst A K O;rfl
theorem BJ.step{P:Program}{main:Bool}{g:Goroutine}{s s₀:St}{K:Goroutine→St→Prop}(h:BJ s s₀)(k:FP P main g s₀ K):FP P main g s K:=
 ⟨k.1,fun w f=>let ⟨g',s',w',es,A,O,U,W,Z⟩:=k.2.1 w (h.fits f);⟨g',s',w',es,A,O,U,h.fr W,fun e he=>h.ev (Z e he)⟩,fun e=>by subst e;exact k.2.2 h.quiet⟩
inductive Rk:Type where
 | leaf:Rk
 | node (f:World→Rk):Rk
def Rk.sub(a b:Rk):Prop:=∃f w,b= .node f∧a=f w
theorem Rk.wf:WellFounded Rk.sub:=⟨fun r=>by
 induction r with
 | leaf=>exact⟨_,fun a ⟨f,w,h,_⟩=>by cases h⟩
 | node f A=>exact⟨_,fun a ⟨g,w,h,e⟩=>by cases h;subst e;exact A w⟩⟩
def Jr(P:Program)(main:Bool)(Q:Goroutine→St→Prop):Rk→Goroutine→St→Prop
 | .leaf,g,s=>Q g s
 | .node f,g,s=>Q g s∨(g.status= .running∧∀w,Fits s w→
  ∃g' s' w' es,stepG P main g w= .go g' w' es∧Jr P main Q (f w) g' s'∧Fits s' w'∧Fr s w s' w'∧(∀e∈es,Ev s w w' e)∧(s= .quiet→s'= .quiet∧w'=w∧es= #[]))
structure Judge (P:Program) where
 main:Bool
 ok:(Goroutine→St→Prop)→Goroutine→St→Prop
 stop:∀{Q g s},Q g s→ok Q g s
 step:∀{Q g s},FP P main g s (ok Q)→ok Q g s
 trans:∀{Q R g s},ok Q g s→(∀g' s',Q g' s'→ok R g' s')→ok R g s
 ghost:∀{Q g s s₀},BJ s s₀→ok Q g s₀→ok Q g s
def JQ(Q:Goroutine→St→Prop)(g:Goroutine)(s:St):Prop:=∃s₀,BJ s s₀∧Q g s₀
theorem BJ.trans{a b c:St}(h:BJ a b)(k:BJ b c):BJ a c where
 ext x o y:=k.ext _ _ (h.ext _ _ y)
 own x o y:=h.own _ _ (k.own _ _ y)
 Ct x o y:=by
  rcases k.Ct x o y with z | z
  ·rcases h.Ct x o z with u | u
   ·exact .inl u
   ·refine .inr ⟨u.1,?_⟩;cases A:c.H x with
    | none=>rfl
    | some v=>have:=k.own _ _ A;rw [u.2] at this;cases this
  ·exact .inr ⟨h.own _ _ z.1,z.2⟩
 q:=k.q.trans h.q
def AZ(P:Program)(main:Bool):Judge P where
 main:=main
 ok Q g s:=∃r,Jr P main (JQ Q) r g s
 stop h:=⟨.leaf,_,.refl _,h⟩
 step {Q g s} h:=by
  obtain⟨O,h,hu⟩:=h;have ab:∀w,∃r:Rk,Fits s w→∃g' s' w' es,stepG P main g w= .go g' w' es∧Jr P main (JQ Q) r g' s'∧Fits s' w'∧Fr s w s' w'∧(∀e∈es,Ev s w w' e)∧(s= .quiet→s'= .quiet∧w'=w∧es= #[]):=by
   intro w;by_cases f:Fits s w
   ·by_cases e:s= .quiet
    ·obtain⟨g',A,r,K⟩:=hu e;exact⟨r,fun _=>⟨g',.quiet,w,#[],A w,K,e▸f,e▸ .refl _ _,by simp,fun _=>⟨rfl,rfl,rfl⟩⟩⟩
    ·obtain⟨g',s',w',es,A,⟨r,K⟩,Z,ac,ae⟩:=h w f;exact⟨r,fun _=>⟨g',s',w',es,A,K,Z,ac,ae,fun x=>absurd x e⟩⟩
   ·exact⟨.leaf,fun x=>absurd x f⟩
  exact⟨.node fun w=>Classical.choose (ab w),.inr ⟨O,fun w f=>Classical.choose_spec (ab w) f⟩⟩
 trans {Q R g s} h k:=by
  obtain⟨r,h⟩:=h;have ah:∀(r:Rk) {g:Goroutine} {s s₀:St},BJ s s₀→Jr P main (JQ R) r g s₀→Jr P main (JQ R) r g s:=by
   intro r g s s₀ U W;cases r with
   | leaf=>obtain⟨aa,A,K⟩:=W;exact⟨aa,U.trans A,K⟩
   | node f=>
    rcases W with⟨aa,A,K⟩ | ⟨O,W⟩
    ·exact .inl ⟨aa,U.trans A,K⟩
    ·exact .inr ⟨O,fun w f=>let ⟨g',s',w',es,A,K,Z,ac,ae,ag⟩:=W w (U.fits f);⟨g',s',w',es,A,K,Z,U.fr ac,fun e he=>U.ev (ae e he),fun e=>ag (by subst e;exact U.quiet)⟩⟩
  induction r generalizing g s with
  | leaf=>
   obtain⟨s₀,A,K⟩:=h;obtain⟨r,O⟩:=k _ _ K;exact⟨r,ah r A O⟩
  | node f aj=>
   rcases h with⟨s₀,A,K⟩ | ⟨O,h⟩
   ·obtain⟨r,O⟩:=k _ _ K;exact⟨r,ah r A O⟩
   ·have ab:∀w,∃r:Rk,Fits s w→∃g' s' w' es,stepG P main g w= .go g' w' es∧Jr P main (JQ R) r g' s'∧Fits s' w'∧Fr s w s' w'∧(∀e∈es,Ev s w w' e)∧(s= .quiet→s'= .quiet∧w'=w∧es= #[]):=by
     intro w;by_cases ai:Fits s w
     ·obtain⟨g',s',w',es,A,K,Z⟩:=h w ai;obtain⟨r,O⟩:=aj w K;exact⟨r,fun _=>⟨g',s',w',es,A,O,Z⟩⟩
     ·exact⟨.leaf,fun x=>absurd x ai⟩
    exact⟨.node fun w=>Classical.choose (ab w),.inr ⟨O,fun w f=>Classical.choose_spec (ab w) f⟩⟩
 ghost {Q g s s₀} U h:=by
  obtain⟨r,W⟩:=h;refine⟨r,?_⟩;cases r with
  | leaf=>obtain⟨aa,A,K⟩:=W;exact⟨aa,U.trans A,K⟩
  | node f=>
   rcases W with⟨aa,A,K⟩ | ⟨O,W⟩
   ·exact .inl ⟨aa,U.trans A,K⟩
   ·exact .inr ⟨O,fun w f=>let ⟨g',s',w',es,A,K,Z,ac,ae,ag⟩:=W w (U.fits f);⟨g',s',w',es,A,K,Z,U.fr ac,fun e he=>U.ev (ae e he),fun e=>ag (by subst e;exact U.quiet)⟩⟩
def Lv(P:Program)(Q:Goroutine→St→Prop):Nat→Goroutine→Prop
 | 0,g=>Q g .quiet
 | n+1,g=>Q g .quiet∨(g.status= .running∧∃g',(∀w,stepG P false g w= .go g' w #[])∧Lv P Q n g')
def DN(P:Program):Judge P where
 main:=false
 ok Q g s:=s= .quiet→∃n,Lv P Q n g
 stop h e:=⟨0,by subst e;exact h⟩
 step {Q g s} h e:=by
  obtain⟨g',A,K⟩:=h.2.2 e;obtain⟨n,O⟩:=K rfl;exact⟨n+1,.inr ⟨h.1,g',A,O⟩⟩
 trans {Q R g s} h k e:=by
  obtain⟨n,O⟩:=h e;have:∀n g,Lv P Q n g→∃m,Lv P R m g:=by
   intro n
   induction n with
   | zero=>intro g h;exact k _ _ h rfl
   | succ n U=>
    intro g h;rcases h with h | ⟨W,g',A,K⟩
    ·exact k _ _ h rfl
    ·obtain⟨m,hm⟩:=U g' K;exact⟨m+1,.inr ⟨W,g',A,hm⟩⟩
  exact this n g O
 ghost {Q g s s₀} Z h e:=by subst e;exact h Z.quiet
end Pal
namespace Pal
open Go Go.Conc
def fr(b:Frame)(T:Array Value)(ds:List Deferred)(todo:List Item):Frame:={b with tmps:=T,todo:=todo,defers:=ds,mode:= .run}
def Cr(b:Frame)(T:Array Value)(ds:List Deferred)(todo:List Item):Frame:={b with tmps:=T,todo:=todo,defers:=ds,mode:= .returning}
def A9(T:Array Value):Operand→Value
 | .tmp t=>T.getD t undef
 | .const v=>v
 | .global g=> .pointer (some ⟨g,0,none⟩)
 | .func f=> .func (.func f) #[] #[]
abbrev Env:=List (Nat×Value)
def look:Env→Nat→Option Value
 | [],_=>none
 | (t,v)::L,u=>if t=u then some v else look L u
def ev(L:Env):Operand→Option Value
 | .tmp t=>look L t
 | .const v=>some v
 | .global g=>some (.pointer (some ⟨g,0,none⟩))
 | .func f=>some (.func (.func f) #[] #[])
structure Has (n:Nat) (L:Env) (T:Array Value):Prop where
 size:T.size=n
 at_:∀t v,look L t=some v→T.getD t undef=v
theorem Has.ev{n:Nat}{L:Env}{T:Array Value}(h:Has n L T){x:Operand}{v:Value}(e:ev L x=some v):A9 T x=v:=by
 cases x with
 | tmp t=>exact h.at_ t v e
 | const u=>cases e;rfl
 | global g=>cases e;rfl
 | func f=>cases e;rfl
def BB(T:Array Value):Option Tmp→Value→Array Value
 | some d,v=>T.setIfInBounds d v
 | none,_=>T
def AH(L:Env):Option Tmp→Value→Env
 | some d,v=>(d,v)::L
 | none,_=>L
def A2(n:Nat):Option Tmp→Bool
 | some d=>d<n
 | none=>true
theorem OO(T:Array Value)(d:Nat)(v:Value)(h:d<T.size)(t:Nat):(T.setIfInBounds d v).getD t undef=if d=t then v else T.getD t undef:=by
 by_cases e:d=t
 ·subst e;simp [Array.getD_eq_getD_getElem?,h]
 ·simp [Array.getD_eq_getD_getElem?,e]
theorem Has.put{n:Nat}{L:Env}{T:Array Value}(h:Has n L T){d:Option Tmp}(A:A2 n d=true)(v:Value):Has n (AH L d v) (BB T d v):=by
 cases d with
 | none=>exact h
 | some d=>
  have K:d<T.size:=by rw [h.size];simpa [A2] using A
  refine⟨by simp [BB,h.size],fun t u hu=>?_⟩;simp only [BB,OO T d v K];simp only [AH,look] at hu;split at hu
  ·rename_i e;rw [if_pos e];exact Option.some.inj hu
  ·rename_i e;rw [if_neg e];exact h.at_ t u hu
def Sub:Env→Env→Prop
 | [],_=>True
 | (t,v)::L',L=>look L t=some v∧Sub L' L
theorem Sub.look{L:Env}:∀{L':Env},Sub L' L→∀t v,look L' t=some v→Pal.look L t=some v
 | [],_,t,v,e=>by simp [Pal.look] at e
 | (u,w)::L',h,t,v,e=>by
  simp only [Pal.look] at e
  split at e
  ·rename_i A;subst A;cases e;exact h.1
  ·exact Sub.look h.2 t v e
theorem Has.sub{n:Nat}{L L':Env}{T:Array Value}(h:Has n L T)(s:Sub L' L):Has n L' T:=⟨h.size,fun t v e=>h.at_ t v (s.look t v e)⟩
section
variable {P:Program}(J:Judge P)(Q:Goroutine→St→Prop)
def JL(b:Frame)(n:Nat)(L:Env)(ds:List Deferred)(todo:List Item)(cs:List Frame)(s:St):Prop:=
 ∀T,Has n L T→J.ok Q (G (fr b T ds todo) cs) s
end
section
variable {P:Program}{J:Judge P}{Q:Goroutine→St→Prop}{b:Frame}{n:Nat}{L L':Env}{ds:List Deferred}{k:List Item}{cs:List Frame}{s s':St}
theorem Judge.BS{g g':Goroutine}(A:g.status= .running)(h:∀w,stepG P J.main g w= .go g' w)(k:J.ok Q g' s):J.ok Q g s:=
 J.step ⟨A,fun w f=>⟨g',s,w,#[],h w,k,f,.refl _ _,by simp⟩,fun e=>⟨g',h,e▸k⟩⟩
theorem JL.BK(h:Sub L' L)(k':JL J Q b n L' ds k cs s):JL J Q b n L ds k cs s:=fun T A=>k' T (A.sub h)
theorem JL.ghost(h:BJ s s')(k':JL J Q b n L ds k cs s'):JL J Q b n L ds k cs s:=fun T A=>J.ghost h (k' T A)
theorem JL.skip(h:JL J Q b n L ds k cs s):JL J Q b n L ds (.code .skip::k) cs s:=fun T A=>Judge.BS rfl (fun w=>by simp [G,stepG,stepG.exec,fr]) (h T A)
theorem JL.label{l:Nat}(h:JL J Q b n L ds k cs s):JL J Q b n L ds (.code (.label l)::k) cs s:=fun T A=>Judge.BS rfl (fun w=>by simp [G,stepG,stepG.exec,fr]) (h T A)
theorem JL.outBlock{i:Nat}(h:JL J Q b n L ds k cs s):JL J Q b n L ds (.inBlock i::k) cs s:=fun T A=>Judge.BS rfl (fun w=>by simp [G,stepG,stepG.exec,fr]) (h T A)
theorem JL.OV{c:Code}(h:JL J Q b n L ds k cs s):JL J Q b n L ds (.inScope c::k) cs s:=fun T A=>Judge.BS rfl (fun w=>by simp [G,stepG,stepG.exec,fr]) (h T A)
theorem JL.seq{x y:Code}(h:JL J Q b n L ds (.code x:: .code y::k) cs s):JL J Q b n L ds (.code (.seq x y)::k) cs s:=fun T A=>Judge.BS rfl (fun w=>by simp [G,stepG,stepG.exec,fr]) (h T A)
theorem JL.block{i:Nat}{c:Code}(h:JL J Q b n L ds (.code c:: .inBlock i::k) cs s):JL J Q b n L ds (.code (.block i c)::k) cs s:=fun T A=>Judge.BS rfl (fun w=>by simp [G,stepG,stepG.exec,fr]) (h T A)
theorem JL.scope{c:Code}(h:JL J Q b n L ds (.code c:: .inScope c::k) cs s):JL J Q b n L ds (.code (.scope c)::k) cs s:=fun T A=>Judge.BS rfl (fun w=>by simp [G,stepG,stepG.exec,fr]) (h T A)
theorem JL.Gq{c:Code}(h:JL J Q b n L ds (.code c:: .inLoop c::k) cs s):JL J Q b n L ds (.code (.loop c)::k) cs s:=fun T A=>Judge.BS rfl (fun w=>by simp [G,stepG,stepG.exec,fr]) (h T A)
theorem JL.again{c:Code}(h:JL J Q b n L ds (.code c:: .inLoop c::k) cs s):JL J Q b n L ds (.inLoop c::k) cs s:=fun T A=>Judge.BS rfl (fun w=>by simp [G,stepG,stepG.exec,fr]) (h T A)
theorem JL.exit{i:Nat}{k':List Item}(A:exitTo i k=some k')(h:JL J Q b n L ds k' cs s):JL J Q b n L ds (.code (.exit i)::k) cs s:=fun T K=>Judge.BS rfl (fun w=>by simp [G,stepG,stepG.exec,fr,A]) (h T K)
theorem JL.goto{l:Nat}{k':List Item}(A:gotoIn l k=some k')(h:JL J Q b n L ds k' cs s):JL J Q b n L ds (.code (.goto l)::k) cs s:=fun T K=>Judge.BS rfl (fun w=>by simp [G,stepG,stepG.exec,fr,A]) (h T K)
theorem LB(T:Array Value)(todo:List Item)(x:Operand):(fr b T ds todo).eval x=A9 T x:=by cases x <;> rfl
theorem K9(T:Array Value)(todo:List Item):(fr b T ds todo).eval=A9 T:=funext (LB T todo)
theorem JL.cond{c:Operand}{x y:Code}{t:Bool}(O:ev L c=some (.bool t))(h:JL J Q b n L ds (.code (if t then x else y)::k) cs s):JL J Q b n L ds (.code (.cond c x y)::k) cs s:=fun T K=>
 Judge.BS rfl (fun w=>by
  have A:=LB (b:=b) (ds:=ds) T (.code (.cond c x y)::k) c
  rw [K.ev O] at A
  simp only [fr] at A
  simp [G,stepG,stepG.exec,fr,A]) (h T K)
theorem JL.Qu{c:Operand}{x y:Code}(A:ev L c=some (.bool true))(h:JL J Q b n L ds (.code x::k) cs s):JL J Q b n L ds (.code (.cond c x y)::k) cs s:=JL.cond A h
theorem JL.QC{c:Operand}{x y:Code}(A:ev L c=some (.bool false))(h:JL J Q b n L ds (.code y::k) cs s):JL J Q b n L ds (.code (.cond c x y)::k) cs s:=JL.cond A h
theorem JL.split{c:Operand}{x y:Code}{t:Bool}(A:ev L c=some (.bool t))(K:t=true→JL J Q b n L ds (.code x::k) cs s)(O:t=false→JL J Q b n L ds (.code y::k) cs s):JL J Q b n L ds (.code (.cond c x y)::k) cs s:=by
 cases t
 ·exact JL.cond A (O rfl)
 ·exact JL.cond A (K rfl)
theorem JL.ifs{c:Operand}{x y:Code}{p:Prop} [Decidable p] (A:ev L c=some (.bool (decide p)))(K:p→JL J Q b n L ds (.code x::k) cs s)(O:¬p→JL J Q b n L ds (.code y::k) cs s):JL J Q b n L ds (.code (.cond c x y)::k) cs s:=
 JL.split A (fun h=>K (of_decide_eq_true h)) (fun h=>O (of_decide_eq_false h))
theorem JL.region{id:Nat}{ops:Array Oper}(h:JL J Q b n L ds (.inRegion ops (List.range ops.size)::k) cs s):JL J Q b n L ds (.code (.region id ops false)::k) cs s:=fun T A=>Judge.BS rfl (fun w=>by simp [G,stepG,stepG.exec,fr]) (h T A)
theorem JL.done{ops:Array Oper}(h:JL J Q b n L ds k cs s):JL J Q b n L ds (.inRegion ops []::k) cs s:=fun T A=>Judge.BS rfl (fun w=>by simp [G,stepG,stepG.exec,fr]) (h T A)
theorem JL.draw{id:Nat}{ops:Array Oper}(A:s.q=false)(hm:P.follows .mixedOrders=true)(h:∀t,JL J Q b n L ds (.inRegion ops (Region.linearise .any ops t)::k) cs s):JL J Q b n L ds (.code (.region id ops true)::k) cs s:=fun T K=>by
 refine J.step ⟨rfl,fun w f=>⟨_,s,{w with drawn:=w.drawn+1},#[],?_,h (w.tape w.drawn (.order b.fn id)) T K,⟨f.e,f.h,f.d⟩,⟨Nat.le_refl _,fun _ _ _=>rfl,fun _ h=> .inl h,fun _ _ h=>h,fun _ h=> .inl h,rfl,rfl,rfl⟩,by simp⟩,fun e=>by subst e;cases A⟩
 simp [G,stepG,stepG.exec,fr,choose,Sem.run,Question.forced,Question.cut,Region.schedule,hm]
theorem Dm(T:Array Value)(ops:Array Oper)(i:Nat)(rest:List Nat)(v:Value)(o:Oper)(A:ops[i]? =some o):
  (fr b T ds (.inRegion ops (i::rest)::k)).finish v=fr b (BB T o.dst v) ds (.inRegion ops rest::k):=by
 cases K:o.dst <;> simp [Frame.finish,fr,A,K,BB]
theorem stepG_op{main:Bool}{T:Array Value}{ops:Array Oper}{i:Nat}{rest:List Nat}{o:Oper}{w:World}(A:ops[i]? =some o)(hw:Region.wanted o (yielded ops T)=true):
  stepG P main (G (fr b T ds (.inRegion ops (i::rest)::k)) cs) w=
   match b.roundOf,o.op with
   | some l,.defer c=>stepG.apply P true (fr b T ds (.inRegion ops (i::rest)::k)) cs none (do Instr.deferInRound l (← resolve (A9 T) c o.type);pure .skip) w
   | _,_=>stepG.apply P true (fr b T ds (.inRegion ops (i::rest)::k)) cs none (execOp (A9 T) o) w:=by
 have he:=K9 (b:=b) (ds:=ds) T (.inRegion ops (i::rest)::k);simp only [fr] at he;simp only [G,stepG,stepG.exec,fr,A,Option.map_some,Option.getD_some,hw,if_true,stepG.oper,Frame.oper?,he]
 rfl
theorem CP(T:Array Value)(todo:List Item):(fr b T ds todo).fn=b.fn:=rfl
theorem D8(T:Array Value)(todo:List Item):(fr b T ds todo).todo=todo:=rfl
theorem Ss(T:Array Value)(todo:List Item)(d:Deferred):{(fr b T ds todo) with defers:=d::ds}=fr b T (d::ds) todo:=rfl
def upon(J:Judge P)(Q:Goroutine→St→Prop)(b:Frame)(T:Array Value)(ds:List Deferred)(ops:Array Oper)(i:Nat)(rest:List Nat)(k:List Item)(cs:List Frame)(dst:Option Tmp):Next→St→Prop
 | .value v,s=>J.ok Q (G (fr b (BB T dst v) ds (.inRegion ops rest::k)) cs) s
 | .skip,s=>J.ok Q (G (fr b (BB T dst undef) ds (.inRegion ops rest::k)) cs) s
 | .defer d,s=>J.ok Q (G (fr b (BB T dst undef) (d::ds) (.inRegion ops rest::k)) cs) s
 | .enter f args,s=>J.ok Q (G (Frame.enter P f args .normal) (fr b T ds (.inRegion ops (i::rest)::k)::cs)) s
 | .round l f tmps assign body,s=>J.ok Q (G (Frame.round l f tmps assign body .normal) (fr b T ds (.inRegion ops (i::rest)::k)::cs)) s
 | _,_=>False
def Ha(J:Judge P)(Q:Goroutine→St→Prop)(b:Frame)(T:Array Value)(ds:List Deferred)(ops:Array Oper)(i:Nat)(rest:List Nat)(k:List Item)(cs:List Frame):Halt→St→Prop
 | .panic v,s=>J.ok Q (G ((fr b T ds (.inRegion ops (i::rest)::k)).raise [{v,recovered:=false}]) cs) s
 | _,_=>False
theorem I2{s:St}{w w':World}{fn:FuncId}{es:Array Event}(h:∀e∈es,Ev s w w' e):∀e∈seen P fn es,Ev s w w' e:=fun e he=>h e (mem_seen he)
theorem Judge.oper{T:Array Value}{ops:Array Oper}{i:Nat}{rest:List Nat}{o:Oper}(ab:ops[i]? =some o)(hw:Region.wanted o (yielded ops T)=true)(aj:b.kind≠ .early)
  (ac:b.roundOf=none∨∀c,o.op≠ .defer c)
  (h:lp P (execOp (A9 T) o) s (upon J Q b T ds ops i rest k cs o.dst) (Ha J Q b T ds ops i rest k cs)):
  J.ok Q (G (fr b T ds (.inRegion ops (i::rest)::k)) cs) s:=by
 have O:((fr b T ds (.inRegion ops (i::rest)::k)).kind==CallKind.early)=false:=by simpa [fr] using aj
 have ah:∀w,stepG P J.main (G (fr b T ds (.inRegion ops (i::rest)::k)) cs) w=stepG.apply P true (fr b T ds (.inRegion ops (i::rest)::k)) cs none (execOp (A9 T) o) w:=by
  intro w;rw [stepG_op ab hw];split
  ·rename_i l c ai ak;rcases ac with ac | ac
   ·rw [ac] at ai;cases ai
   ·exact absurd ak (ac c)
  ·rfl
 refine J.step ⟨rfl,fun w f=>?_,fun e=>?_⟩
 rotate_left
 ·subst e;simp only [ah];have ae:=fun v=>Dm (b:=b) (ds:=ds) (k:=k) T ops i rest v o ab;obtain⟨es,he,U,h⟩:=IQ _ h;have aa:seen P b.fn es= #[]:=IB U;rcases h with⟨nx,A,K⟩ | ⟨x,A,K⟩
  ·cases nx with
   | value v=>exact⟨_,fun w=>by simp [stepG.apply,K,O,GStep.after,G,ae,CP,he,aa],A⟩
   | skip=>exact⟨_,fun w=>by simp [stepG.apply,K,O,GStep.after,G,ae,CP,he,aa],A⟩
   | enter g args=>exact⟨_,fun w=>by simp [stepG.apply,K,O,GStep.after,G,CP,D8,he,aa],A⟩
   | round l g al as am=>exact⟨_,fun w=>by simp [stepG.apply,K,O,GStep.after,G,CP,D8,he,aa],A⟩
   | defer d=>
    have ag:=Dm (b:=b) (ds:=d::ds) (k:=k) T ops i rest undef o ab;exact⟨_,fun w=>by rw [← ag];simp [stepG.apply,K,O,GStep.after,G,CP,D8,he,aa];rfl,A⟩
   | _=>exact A.elim
  ·cases x with
   | panic v=>exact⟨_,fun w=>by simp [stepG.apply,K,O,GStep.after,G,CP,D8,he,aa],A⟩
   | _=>exact A.elim
 obtain⟨s',W,Z,an,A⟩:=HE _ h f;rw [ah];have U:=I2 (P:=P) (fn:=b.fn) an;have ae:=fun v=>Dm (b:=b) (ds:=ds) (k:=k) T ops i rest v o ab;cases K:(execOp (A9 T) o).run P w with
 | ok nx w'=>
  rw [K] at W Z A U;simp only [F0] at W Z U;cases nx with
  | value v=>exact⟨_,s',w',seen P b.fn ((execOp (A9 T) o).events P w #[])++ #[],by simp [stepG.apply,K,O,GStep.after,G,ae,CP],A,W,Z,by simpa using U⟩
  | skip=>exact⟨_,s',w',seen P b.fn ((execOp (A9 T) o).events P w #[])++ #[],by simp [stepG.apply,K,O,GStep.after,G,ae,CP],A,W,Z,by simpa using U⟩
  | enter g args=>exact⟨_,s',w',seen P b.fn ((execOp (A9 T) o).events P w #[])++ #[],by simp [stepG.apply,K,O,GStep.after,G,CP,D8],A,W,Z,by simpa using U⟩
  | round l g al as am=>exact⟨_,s',w',seen P b.fn ((execOp (A9 T) o).events P w #[])++ #[],by simp [stepG.apply,K,O,GStep.after,G,CP,D8],A,W,Z,by simpa using U⟩
  | defer d=>
   have ag:=Dm (b:=b) (ds:=d::ds) (k:=k) T ops i rest undef o ab;exact⟨_,s',w',seen P b.fn ((execOp (A9 T) o).events P w #[])++ #[],by
    rw [← ag];simp [stepG.apply,K,O,GStep.after,G,CP,D8];rfl,A,W,Z,by simpa using U⟩
  | _=>exact A.elim
 | halt x w'=>
  rw [K] at W Z A U;simp only [F0] at W Z U;cases x with
  | panic v=>exact⟨_,s',w',seen P b.fn ((execOp (A9 T) o).events P w #[])++ #[],by simp [stepG.apply,K,O,GStep.after,G,CP,D8],A,W,Z,by simpa using U⟩
  | _=>exact A.elim
theorem Judge.unwanted{T:Array Value}{ops:Array Oper}{i:Nat}{rest:List Nat}{o:Oper}(A:ops[i]? =some o)(hw:Region.wanted o (yielded ops T)=false)
  (h:J.ok Q (G (fr b (BB T o.dst undef) ds (.inRegion ops rest::k)) cs) s):J.ok Q (G (fr b T ds (.inRegion ops (i::rest)::k)) cs) s:=by
 refine Judge.BS rfl (fun w=>?_) h;have K:=Dm (b:=b) (ds:=ds) (k:=k) T ops i rest undef o A;rw [← K];simp [G,stepG,stepG.exec,fr,A,hw]
end
end Pal
namespace Pal
open Go Go.Conc
def Yl(P:Program)(o:Oper)(ρ:Operand→Value)(s:St)(v:Value):Prop:=lp P (execOp ρ o) s (fun nx s'=>nx= .value v∧s'=s) (fun _ _=>False)
def Cw(L:Env)(ρ:Operand→Value):Prop:=∀x v,ev L x=some v→ρ x=v
def AS(L:Env)(ops:Array Oper)(o:Oper):Option Bool:=
 match o.guard with
 | none=>some true
 | some (j,A)=>match(ops[j]?).bind (·.dst) with
  | some d=>match look L d with
   | some (.bool b)=>some (b==A)
   | some (.tuple _)=>some false
   | _=>none
  | none=>none
section
variable {P:Program}{J:Judge P}{Q:Goroutine→St→Prop}{b:Frame}{n:Nat}{L L':Env}{ds:List Deferred}{k:List Item}{cs:List Frame}{s s':St}
theorem Has.Dr{T:Array Value}(h:Has n L T):Cw L (A9 T):=fun _ _ e=>h.ev e
theorem getD_some{T:Array Value}{d:Nat}{c:Bool}(h:T.getD d undef= .bool c):T[d]? =some (.bool c):=by
 rw [Array.getD_eq_getD_getElem?] at h;cases A:T[d]? with
 | none=>rw [A] at h;simp [undef] at h
 | some v=>rw [A] at h;simp at h;rw [h]
theorem BM{T:Array Value}{ops:Array Oper}{o:Oper}{c:Bool}(h:Has n L T)(hw:AS L ops o=some c):Region.wanted o (yielded ops T)=c:=by
 unfold AS at hw;unfold Region.wanted;cases A:o.guard with
 | none=>rw [A] at hw;simpa using hw
 | some p=>
  obtain⟨j,W⟩:=p;rw [A] at hw;simp only at hw ⊢;cases K:(ops[j]?).bind (·.dst) with
  | none=>rw [K] at hw;simp at hw
  | some d=>
   rw [K] at hw;simp only at hw;cases O:look L d with
   | none=>rw [O] at hw;simp at hw
   | some v=>
    rw [O] at hw;cases v with
    | bool x=>
     simp only [Option.some.injEq] at hw;have:=getD_some (h.at_ d _ O);simp only [yielded,K,Option.bind_some,this];simp [← hw]
    | tuple c=>
     simp only [Option.some.injEq] at hw;have A:=h.at_ d _ O;simp only [yielded,K,Option.bind_some];cases U:T[d]? with
     | none=>simp [← hw]
     | some u=>
      have:u= .tuple c:=by rw [Array.getD_eq_getD_getElem?,U] at A;exact A
      subst this;simp [← hw]
    | _=>simp at hw
def B7:Op→Bool | .defer _=>true | _=>false
def BC(b:Frame)(n:Nat)(o:Oper):Bool:=(b.kind != .early)&&(A2 n o.dst&& !B7 o.op)
theorem Yl.out{P:Program}{o:Oper}{ρ:Operand→Value}{s:St}{v:Value}(h:Yl P o ρ s v):Pal.lp P (execOp ρ o) s (fun nx s'=>nx= .value v∧s'=s) (fun _ _=>False):=by unfold Yl at h;exact h
theorem JL.y{ops:Array Oper}{i:Nat}{rest:List Nat}{o:Oper}{v:Value}(U:ops[i]? =some o)(hw:AS L ops o=some true)(A:BC b n o=true)
  (h:∀ρ,Cw L ρ→Yl P o ρ s v) (W:JL J Q b n (AH L o.dst v) ds (.inRegion ops rest::k) cs s):
  JL J Q b n L ds (.inRegion ops (i::rest)::k) cs s:=fun T K=>by
 simp only [BC,Bool.and_eq_true] at A
 obtain⟨A,Z,O⟩:=A
 refine Judge.oper U (BM K hw) (by simpa using A) (.inr fun c aa=>by rw [aa] at O;simp [B7] at O) (BV _ (h _ K.Dr).out ?_ ?_)
 ·rintro nx s' ⟨rfl,rfl⟩
  exact W _ (K.put Z v)
 ·intro _ _ ab;exact ab.elim
theorem JL.no{ops:Array Oper}{i:Nat}{rest:List Nat}{o:Oper}(K:ops[i]? =some o)(hw:AS L ops o=some false)(O:A2 n o.dst=true)
  (U:JL J Q b n (AH L o.dst undef) ds (.inRegion ops rest::k) cs s):
  JL J Q b n L ds (.inRegion ops (i::rest)::k) cs s:=fun _ A=>
 Judge.unwanted K (BM A hw) (U _ (A.put O undef))
theorem JL.op{ops:Array Oper}{i:Nat}{rest:List Nat}{o:Oper}(Z:ops[i]? =some o)(hw:AS L ops o=some true)(A:BC b n o=true)
  (h:∀ρ,Cw L ρ→lp P (execOp ρ o) s (fun nx s'=>match nx with
   | .value v=>JL J Q b n (AH L o.dst v) ds (.inRegion ops rest::k) cs s'
   | .skip=>JL J Q b n (AH L o.dst undef) ds (.inRegion ops rest::k) cs s'
   | _=>False) (fun _ _=>False)):
  JL J Q b n L ds (.inRegion ops (i::rest)::k) cs s:=fun T K=>by
 simp only [BC,Bool.and_eq_true] at A
 obtain⟨A,U,W⟩:=A
 refine Judge.oper Z (BM K hw) (by simpa using A) (.inr fun c aa=>by rw [aa] at W;simp [B7] at W) (BV _ (h _ K.Dr) ?_ ?_)
 ·intro nx s' O
  cases nx with
  | value v=>exact O _ (K.put U v)
  | skip=>exact O _ (K.put U undef)
  | _=>exact O.elim
 ·intro _ _ ab;exact ab.elim
end
section
variable {P:Program}{ρ:Operand→Value}{s:St}{x y z:Operand}{d:Option Tmp}{t u ty:TypeId}{p:String}{af:Array Edge}{g:Option (Nat×Bool)}{v:Value}{kd kd':IntKind}{m m':Int}
theorem Yl.move(A:ρ x=v):Yl P ⟨d,.move x,ty,p,af,g⟩ ρ s v:=by simp [Yl,execOp,lp,pure,A]
theorem Yl.assign(A:ρ x=v):Yl P ⟨d,.assign x,ty,p,af,g⟩ ρ s v:=by simp [Yl,execOp,lp,pure,A]
theorem Yl.QH(A:ρ z= .bool true)(K:ρ x=v):Yl P ⟨d,.pick z x y,ty,p,af,g⟩ ρ s v:=by simp [Yl,execOp,lp,pure,bind,Sem.bind,asBool,A,K]
theorem Yl.Qz(A:ρ z= .bool false)(K:ρ y=v):Yl P ⟨d,.pick z x y,ty,p,af,g⟩ ρ s v:=by simp [Yl,execOp,lp,pure,bind,Sem.bind,asBool,A,K]
theorem Yl.lss(A:ρ x= .int kd m)(K:ρ y= .int kd m'):Yl P ⟨d,.binOp .lss t x y u,ty,p,af,g⟩ ρ s (.bool (decide (m<m'))):=by
 simp [Yl,execOp,lp,pure,bind,Sem.bind,A,K,eqGuard,Go.binOp,Op.intCmp]
theorem Yl.leq(A:ρ x= .int kd m)(K:ρ y= .int kd m'):Yl P ⟨d,.binOp .leq t x y u,ty,p,af,g⟩ ρ s (.bool (decide (m≤m'))):=by
 simp [Yl,execOp,lp,pure,bind,Sem.bind,A,K,eqGuard,Go.binOp,Op.intCmp]
theorem Yl.gtr(A:ρ x= .int kd m)(K:ρ y= .int kd m'):Yl P ⟨d,.binOp .gtr t x y u,ty,p,af,g⟩ ρ s (.bool (decide (m'<m))):=by
 simp [Yl,execOp,lp,pure,bind,Sem.bind,A,K,eqGuard,Go.binOp,Op.intCmp]
theorem Yl.geq(A:ρ x= .int kd m)(K:ρ y= .int kd m'):Yl P ⟨d,.binOp .geq t x y u,ty,p,af,g⟩ ρ s (.bool (decide (m'≤m))):=by
 simp [Yl,execOp,lp,pure,bind,Sem.bind,A,K,eqGuard,Go.binOp,Op.intCmp]
theorem Yl.eql(A:ρ x= .int kd m)(K:ρ y= .int kd m'):Yl P ⟨d,.binOp .eql t x y u,ty,p,af,g⟩ ρ s (.bool (decide (m=m'))):=by
 simp [Yl,execOp,lp,pure,bind,Sem.bind,A,K,eqGuard,Go.binOp,Op.intCmp];rfl
theorem Yl.neq(A:ρ x= .int kd m)(K:ρ y= .int kd m'):Yl P ⟨d,.binOp .neq t x y u,ty,p,af,g⟩ ρ s (.bool (!decide (m=m'))):=by
 simp [Yl,execOp,lp,pure,bind,Sem.bind,A,K,eqGuard,Go.binOp,Op.intCmp];rfl
theorem Yl.add(A:ρ x= .int kd m)(K:ρ y= .int kd m'):Yl P ⟨d,.binOp .add t x y u,ty,p,af,g⟩ ρ s (.int kd (kd.wrap (m+m'))):=by
 simp [Yl,execOp,lp,pure,bind,Sem.bind,A,K,eqGuard,Go.binOp,Op.intArith]
theorem Yl.sub(A:ρ x= .int kd m)(K:ρ y= .int kd m'):Yl P ⟨d,.binOp .sub t x y u,ty,p,af,g⟩ ρ s (.int kd (kd.wrap (m - m'))):=by
 simp [Yl,execOp,lp,pure,bind,Sem.bind,A,K,eqGuard,Go.binOp,Op.intArith]
theorem Yl.mul(A:ρ x= .int kd m)(K:ρ y= .int kd m'):Yl P ⟨d,.binOp .mul t x y u,ty,p,af,g⟩ ρ s (.int kd (kd.wrap (m*m'))):=by
 simp [Yl,execOp,lp,pure,bind,Sem.bind,A,K,eqGuard,Go.binOp,Op.intArith]
theorem FI{a:Int}(h: -9223372036854775808≤a∧a≤9223372036854775807):IntKind.i64.wrap a=a:=by
 simp only [IntKind.wrap,IntKind.bits,IntKind.signed];simp;split <;> omega
theorem Yl.RY(A:ρ x= .int .i64 m)(K:ρ y= .int .i64 m')(hb: -9223372036854775808≤m+m'∧m+m'≤9223372036854775807):Yl P ⟨d,.binOp .add t x y u,ty,p,af,g⟩ ρ s (.int .i64 (m+m')):=by
 have:=Yl.add (P:=P) (s:=s) (d:=d) (t:=t) (u:=u) (ty:=ty) (p:=p) (af:=af) (g:=g) A K;rwa [FI hb] at this
theorem Yl.R7(A:ρ x= .int .i64 m)(K:ρ y= .int .i64 m')(hb: -9223372036854775808≤m - m'∧m - m'≤9223372036854775807):Yl P ⟨d,.binOp .sub t x y u,ty,p,af,g⟩ ρ s (.int .i64 (m - m')):=by
 have:=Yl.sub (P:=P) (s:=s) (d:=d) (t:=t) (u:=u) (ty:=ty) (p:=p) (af:=af) (g:=g) A K;rwa [FI hb] at this
theorem Yl.R4(A:ρ x= .int .i64 m)(K:ρ y= .int .i64 m')(hb: -9223372036854775808≤m*m'∧m*m'≤9223372036854775807):Yl P ⟨d,.binOp .mul t x y u,ty,p,af,g⟩ ρ s (.int .i64 (m*m')):=by
 have:=Yl.mul (P:=P) (s:=s) (d:=d) (t:=t) (u:=u) (ty:=ty) (p:=p) (af:=af) (g:=g) A K;rwa [FI hb] at this
theorem Yl.rem(A:ρ x= .int kd m)(K:ρ y= .int kd m')(O:m'≠0):Yl P ⟨d,.binOp .rem t x y u,ty,p,af,g⟩ ρ s (.int kd (m.tmod m')):=by
 simp [Yl,execOp,lp,pure,bind,Sem.bind,A,K,eqGuard,Go.binOp,Op.intDiv,O]
theorem Yl.quo(A:ρ x= .int kd m)(K:ρ y= .int kd m')(O:m'≠0):Yl P ⟨d,.binOp .quo t x y u,ty,p,af,g⟩ ρ s (.int kd (kd.wrap (m.tdiv m'))):=by
 simp [Yl,execOp,lp,pure,bind,Sem.bind,A,K,eqGuard,Go.binOp,Op.intDiv,O]
theorem Yl.and(A:ρ x= .int kd m)(K:ρ y= .int kd m'):Yl P ⟨d,.binOp .and t x y u,ty,p,af,g⟩ ρ s (.int kd (kd.wrap (BitVec.ofInt kd.bits m&&& BitVec.ofInt kd.bits m').toNat)):=by
 simp [Yl,execOp,lp,pure,bind,Sem.bind,A,K,eqGuard,Go.binOp,Op.intBits]
theorem Yl.or(A:ρ x= .int kd m)(K:ρ y= .int kd m'):Yl P ⟨d,.binOp .or t x y u,ty,p,af,g⟩ ρ s (.int kd (kd.wrap (BitVec.ofInt kd.bits m ||| BitVec.ofInt kd.bits m').toNat)):=by
 simp [Yl,execOp,lp,pure,bind,Sem.bind,A,K,eqGuard,Go.binOp,Op.intBits]
theorem Yl.xor(A:ρ x= .int kd m)(K:ρ y= .int kd m'):Yl P ⟨d,.binOp .xor t x y u,ty,p,af,g⟩ ρ s (.int kd (kd.wrap (BitVec.ofInt kd.bits m ^^^ BitVec.ofInt kd.bits m').toNat)):=by
 simp [Yl,execOp,lp,pure,bind,Sem.bind,A,K,eqGuard,Go.binOp,Op.intBits]
theorem Yl.shl(A:ρ x= .int kd m)(K:ρ y= .int kd' m')(O:0≤m'):Yl P ⟨d,.binOp .shl t x y u,ty,p,af,g⟩ ρ s (.int kd (kd.wrap (m*2 ^ (min m'.toNat kd.bits)))):=by
 have:¬m'<0:=by omega
 simp [Yl,execOp,lp,pure,bind,Sem.bind,A,K,eqGuard,Go.binOp,Op.shift,this]
theorem Yl.shr(A:ρ x= .int kd m)(K:ρ y= .int kd' m')(O:0≤m'):Yl P ⟨d,.binOp .shr t x y u,ty,p,af,g⟩ ρ s (.int kd (m.fdiv (2 ^ (min m'.toNat kd.bits)))):=by
 have:¬m'<0:=by omega
 simp [Yl,execOp,lp,pure,bind,Sem.bind,A,K,eqGuard,Go.binOp,Op.shift,this]
theorem Yl.not{c:Bool}(A:ρ x= .bool c):Yl P ⟨d,.unOp .not t x,ty,p,af,g⟩ ρ s (.bool (!c)):=by
 simp [Yl,execOp,lp,pure,bind,Sem.bind,A,Op.unary]
theorem Yl.conv(ht:P.underlying t=some (.int kd'))(hu:P.underlying u=some (.int kd))(A:ρ x= .int kd' m):Yl P ⟨d,.convert t u x,ty,p,af,g⟩ ρ s (.int kd (kd.wrap m)):=by
 simp [Yl,execOp,lp,pure,bind,Sem.bind,A,Go.convert,underlying,program,ht,hu,Conv.intToInt]
theorem Yl.extract{vs:Array Value}{i:Nat}(A:ρ x= .tuple vs)(hi:vs[i]? =some v):Yl P ⟨d,.extract x i,ty,p,af,g⟩ ρ s v:=by
 simp [Yl,execOp,lp,pure,bind,Sem.bind,A,Instr.extract,hi]
theorem Yl.nilCheck{a:Addr}(A:ρ x= .pointer (some a)):Yl P ⟨d,.nilCheck x,ty,p,af,g⟩ ρ s (.pointer (some a)):=by
 simp [Yl,execOp,lp,pure,A]
theorem Yl.len{a:Option Addr}{e:TypeId}{l c:Nat}{ats:Array TypeId}(A:ats[0]? =some t)(ht:P.underlying t=some (.slice e))(K:ρ x= .slice a l c):
  Yl P ⟨d,.call ⟨.builtin .len,#[x],ats⟩,ty,p,af,g⟩ ρ s (.int .i64 l):=by
 simp [Yl,execOp,lp,pure,bind,Sem.bind,K,resolve,invoke,builtin,Builtin.len_,A,underlying,program,ht,goInt]
theorem Yl.CX{A:TypeDesc}(ht:P.underlying t=some A)(K:∀ms,A≠ .interface ms)(O:ρ x=v):Yl P ⟨d,.makeInterface t x,ty,p,af,g⟩ ρ s (.iface t v):=by
 have:lp P (Instr.makeInterface t v) s (fun r s'=>r= .iface t v∧s'=s) (fun _ _=>False):=by
  unfold Instr.makeInterface;simp only [lp,bind,Sem.bind,underlying,program,ht];cases A <;> first | exact⟨rfl,rfl⟩ | exact absurd rfl (K _)
 simp only [Yl,execOp,O];exact AF _ _ (BV _ this (fun r s' ⟨U,W⟩=>⟨by rw [U],W⟩) (fun _ _ h=>h))
theorem Yl.FT{fn:Fn}{a c:Array Operand}{A K:Array Value}(O:a.map ρ=A)(U:c.map ρ=K):Yl P ⟨d,.makeFunc fn a c,ty,p,af,g⟩ ρ s (.func fn A K):=by
 simp [Yl,execOp,lp,pure,bind,Sem.bind,Instr.makeFunc,O,U]
end
attribute [irreducible] Yl
end Pal
namespace Pal
open Go Go.Conc
def Le(E E':LH):Prop:=∀b o,E b=some o→E' b=some o
theorem Le.refl(E:LH):Le E E:=fun _ _ h=>h
theorem Le.trans{E E' A:LH}(h:Le E E')(k:Le E' A):Le E A:=fun b o x=>k b o (h b o x)
def AT:List (Nat×Obj)→LH→LH
 | [],H=>H
 | (b,o)::B,H=>fun x=>if x=b then some o else AT B H x
def mk(E H:LH)(B:List (Nat×Obj)):St:=⟨E,AT B H,false⟩
def Nd(E H:LH):List (Nat×Obj)→Prop
 | []=>True
 | (b,_)::B=>E b=none∧H b=none∧(∀p∈B,p.1≠b)∧Nd E H B
theorem Kl{H:LH}{b:Nat}:∀{B:List (Nat×Obj)},H b=none→(∀p∈B,p.1≠b)→AT B H b=none
 | [],h,_=>h
 | (c,o)::B,h,hb=>by
  have A:b≠c:=fun e=>hb (c,o) (by simp) e.symm
  simp only [AT,if_neg A]
  exact Kl h fun p K=>hb p (List.mem_cons_of_mem _ K)
theorem D5{H:LH}{b:Nat}:∀{B:List (Nat×Obj)},AT B H b=none→H b=none∧∀p∈B,p.1≠b
 | [],h=>⟨h,by simp⟩
 | (c,o)::B,h=>by
  simp only [AT] at h
  split at h
  ·cases h
  ·rename_i K;obtain⟨O,U⟩:=D5 h;refine⟨O,fun p A=>?_⟩;rcases List.mem_cons.1 A with rfl | A
   ·exact fun e=>K e.symm
   ·exact U p A
theorem J2{H:LH}{x:Nat}{o:Obj}{r:Nat}:∀{B:List (Nat×Obj)},(∀p∈B,p.1≠r)→AT (B++ [(r,o)]) H x=if x=r then some o else AT B H x
 | [],_=>rfl
 | (c,u)::B,h=>by
  simp only [List.cons_append,AT]
  by_cases e:x=c
  ·subst e
   have:x≠r:=fun e=>h (x,u) (by simp) e;simp [this]
  ·simp only [if_neg e];exact J2 fun p A=>h p (List.mem_cons_of_mem _ A)
theorem Nd.append{E H:LH}{r:Nat}{o:Obj}(K:E r=none)(O:H r=none):∀{B:List (Nat×Obj)},(∀p∈B,p.1≠r)→Nd E H B→Nd E H (B++ [(r,o)])
 | [],_,_=>⟨K,O,by simp,trivial⟩
 | (c,u)::B,h,U=>by
  obtain⟨W,Z,aa,ab⟩:=U
  refine⟨W,Z,fun p A=>?_,Nd.append K O (fun p A=>h p (List.mem_cons_of_mem _ A)) ab⟩
  rcases List.mem_append.1 A with A | A
  ·exact aa p A
  ·simp at A;subst A;exact fun e=>h (c,u) (by simp) e.symm
theorem Fp{E H:LH}{b:Nat}{o:Obj}:∀{B:List (Nat×Obj)} {i:Nat},Nd E H B→B[i]? =some (b,o)→AT B H b=some o
 | [],_,_,h=>by simp at h
 | (c,u)::B,0,_,h=>by simp at h;obtain⟨rfl,rfl⟩:=h;simp [AT]
 | (c,u)::B,i+1,A,h=>by
  simp at h
  have K:b≠c:=A.2.2.1 (b,o) (List.mem_of_getElem? h)
  simp only [AT,if_neg K]
  exact Fp A.2.2.2 h
theorem Kx{E H:LH}{b:Nat}{o o':Obj}:∀{B:List (Nat×Obj)} {i:Nat},Nd E H B→B[i]? =some (b,o)→AT (B.set i (b,o')) H=fun x=>if x=b then some o' else AT B H x
 | [],_,_,h=>by simp at h
 | (c,u)::B,0,_,h=>by
  simp at h;obtain⟨rfl,rfl⟩:=h
  funext x
  simp only [List.set_cons_zero,AT]
  split <;> rfl
 | (c,u)::B,i+1,A,h=>by
  simp at h
  have K:b≠c:=A.2.2.1 (b,o) (List.mem_of_getElem? h)
  funext x
  simp only [List.set_cons_succ,AT]
  rw [Kx A.2.2.2 h]
  by_cases e:x=c
  ·subst e;simp [Ne.symm K]
  ·simp [e]
theorem Nd.set{E H:LH}{b:Nat}{o o':Obj}:∀{B:List (Nat×Obj)} {i:Nat},Nd E H B→B[i]? =some (b,o)→Nd E H (B.set i (b,o'))
 | [],_,_,h=>by simp at h
 | (c,u)::B,0,A,h=>by simp at h;obtain⟨rfl,rfl⟩:=h;exact A
 | (c,u)::B,i+1,A,h=>by
  simp at h
  refine⟨A.1,A.2.1,fun p K=>?_,A.2.2.2.set h⟩
  have hm:=List.mem_or_eq_of_mem_set K
  rcases hm with hm | rfl
  ·exact A.2.2.1 p hm
  ·exact A.2.2.1 (b,o) (List.mem_of_getElem? h)
theorem Nd.LV{E H:LH}{b:Nat}{o:Obj}:∀{B:List (Nat×Obj)} {i:Nat},Nd E H B→B[i]? =some (b,o)→E b=none
 | [],_,_,h=>by simp at h
 | (c,u)::B,0,A,h=>by simp at h;obtain⟨rfl,rfl⟩:=h;exact A.1
 | (c,u)::B,i+1,A,h=>by simp at h;exact Nd.LV A.2.2.2 h
theorem II{E H:LH}{B:List (Nat×Obj)}{i b:Nat}{o:Obj}(A:Nd E H B)(h:B[i]? =some (b,o)):(mk E H B).get b=some o:=by
 unfold St.get mk;simp only [A.LV h,Fp A h]
theorem NB{E H:LH}{B:List (Nat×Obj)}{b:Nat}{o:Obj}(h:E b=some o):(mk E H B).get b=some o:=by
 unfold St.get mk;simp only [h]
theorem Lc{E H:LH}{B:List (Nat×Obj)}{i b off:Nat}{c:Array Value}{e:TypeId}{f:Nat×Nat}{v:Value}(A:Nd E H B)(h:B[i]? =some (b,.cells c e f))(K:c[off]? =some v):(mk E H B).cell? ⟨b,off,none⟩=some v:=by
 unfold St.cell?;rw [II A h];exact K
theorem N9{E H:LH}{B:List (Nat×Obj)}{b off:Nat}{c:Array Value}{e:TypeId}{f:Nat×Nat}{v:Value}(h:E b=some (.cells c e f))(A:c[off]? =some v):(mk E H B).cell? ⟨b,off,none⟩=some v:=by
 unfold St.cell?;rw [NB h];exact A
section
variable {P:Program}{J:Judge P}{Q:Goroutine→St→Prop}{b:Frame}{n:Nat}{L L':Env}{ds:List Deferred}{k:List Item}{cs:List Frame}{E H:LH}{B B':List (Nat×Obj)}
theorem Ge{r:Nat}(K:(mk E H B).E r=none)(O:(mk E H B).H r=none)(o:Obj)(U:Nd E H B):Nd E H (B++ [(r,o)])∧(mk E H B).upd r o=mk E H (B++ [(r,o)]):=by
 obtain⟨W,A⟩:=D5 O;refine⟨Nd.append K W A U,?_⟩;unfold St.upd mk;congr 1;funext x;exact(J2 A).symm
theorem P7{i A:Nat}{o o':Obj}(K:Nd E H B)(h:B[i]? =some (A,o)):(mk E H B).upd A o'=mk E H (B.set i (A,o')):=by
 unfold St.upd mk;congr 1;exact(Kx K h).symm
theorem JL.drop(B':List (Nat×Obj))(h:∀p∈B',∃i:Nat,B[i]? =some p)(O:Nd E H B)(k':JL J Q b n L ds k cs (mk E H B')):JL J Q b n L ds k cs (mk E H B):=
 JL.ghost (s':=mk E H B') ⟨fun _ _ h=>h,fun x o K=>by
  show AT B H x=some o
  have key:∀{B':List (Nat×Obj)},(∀p∈B',∃i:Nat,B[i]? =some p)→AT B' H x=some o→AT B H x=some o:=by
   intro B'
   induction B' with
   | nil=>
    intro _ K
    have ab:∀p∈B,p.1≠x:=by
     intro p A e
     have:∀{B:List (Nat×Obj)},Nd E H B→p∈B→H p.1=none:=by
      intro B O A
      induction B with
      | nil=>simp at A
      | cons q B U=>
       rcases List.mem_cons.1 A with rfl | A
       ·exact O.2.1
       ·exact U O.2.2.2 A
     have Z:=this O A
     rw [e] at Z
     have aa:H x=some o:=K
     rw [Z] at aa;cases aa
    have:∀{B:List (Nat×Obj)},(∀p∈B,p.1≠x)→AT B H x=H x:=by
     intro B W
     induction B with
     | nil=>rfl
     | cons q B U=>
      have ac:x≠q.1:=fun e=>W q (by simp) e.symm
      obtain⟨c,u⟩:=q
      simp only [AT,if_neg ac]
      exact U fun p A=>W p (List.mem_cons_of_mem _ A)
    rw [this ab];exact K
   | cons q B' U=>
    intro W K
    obtain⟨c,u⟩:=q
    simp only [AT] at K
    split at K
    ·rename_i e;subst e;cases K
     obtain⟨i,hi⟩:=W (x,o) (by simp)
     exact Fp O hi
    ·exact U (fun p A=>W p (List.mem_cons_of_mem _ A)) K
  exact key h K,fun _ _ h=> .inl h,rfl⟩ k'
theorem IE{x:Nat}:∀{B:List (Nat×Obj)} {i:Nat} {K:Nat} {o u:Obj},Nd E H B→B[i]? =some (K,o)→AT (B.eraseIdx i) H x=some u→x≠K∧AT B H x=some u
 | [],_,_,_,_,_,h,_=>by simp at h
 | (c,v)::B,0,K,o,u,O,h,A=>by
  simp at h;obtain⟨rfl,rfl⟩:=h
  simp only [List.eraseIdx_cons_zero] at A
  have U:x≠c:=by
   intro e;subst e;rw [Kl O.2.1 O.2.2.1] at A;cases A
  exact⟨U,by simp only [AT,if_neg U];exact A⟩
 | (c,v)::B,i+1,K,o,u,O,h,A=>by
  simp at h;simp only [List.eraseIdx_cons_succ,AT] at A ⊢;split at A
  ·rename_i e;subst e;rw [if_pos rfl];exact⟨fun e=>O.2.2.1 (K,o) (List.mem_of_getElem? h) e.symm,A⟩
  ·rename_i e;rw [if_neg e];exact IE O.2.2.2 h A
theorem JL.freeze(i:Nat){K:Nat}{o:Obj}(A:Nd E H B)(h:B[i]? =some (K,o))
  (k':∀E',Le E E'→E' K=some o→Nd E' H (B.eraseIdx i)→JL J Q b n L ds k cs (mk E' H (B.eraseIdx i))):JL J Q b n L ds k cs (mk E H B):=by
 have ag:=List.mem_of_getElem? h;have ah:E K=none∧H K=none:=by
  have:∀{B:List (Nat×Obj)},Nd E H B→(K,o)∈B→E K=none∧H K=none:=by
   intro B A O
   induction B with
   | nil=>simp at O
   | cons q B W=>
    rcases List.mem_cons.1 O with rfl | O
    ·exact⟨A.1,A.2.1⟩
    ·exact W A.2.2.2 O
  exact this A ag
 let E':LH:=fun x=>if x=K then some o else E x
 have ab:E' K=some o:=by simp [E']
 have hle:Le E E':=fun x u U=>by
  have:x≠K:=fun e=>by subst e;rw [ah.1] at U;cases U
  simp [E',this,U]
 have ai:Nd E' H (B.eraseIdx i):=by
  have:∀{B:List (Nat×Obj)} {i:Nat},Nd E H B→B[i]? =some (K,o)→Nd E' H (B.eraseIdx i)∧∀p∈B.eraseIdx i,p.1≠K:=by
   intro B
   induction B with
   | nil=>intro i _ h;simp at h
   | cons q B W=>
    obtain⟨c,v⟩:=q;intro i A h;have up:∀{B:List (Nat×Obj)},Nd E H B→(∀p∈B,p.1≠K)→Nd E' H B:=by
     intro B A ac
     induction B with
     | nil=>trivial
     | cons q B aj=>exact⟨by simpa [E',ac q (by simp)] using A.1,A.2.1,A.2.2.1,aj A.2.2.2 fun p O=>ac p (List.mem_cons_of_mem _ O)⟩
    cases i with
    | zero=>
     simp at h;obtain⟨rfl,rfl⟩:=h;exact⟨up A.2.2.2 A.2.2.1,A.2.2.1⟩
    | succ i=>
     simp at h;obtain⟨Z,aa⟩:=W A.2.2.2 h;have ae:c≠K:=fun e=>A.2.2.1 (K,o) (List.mem_of_getElem? h) e.symm;refine⟨⟨by simpa [E',ae] using A.1,A.2.1,fun p O=>A.2.2.1 p (List.mem_of_mem_eraseIdx O),Z⟩,fun p O=>?_⟩;rcases List.mem_cons.1 O with rfl | O
     ·exact ae
     ·exact aa p O
  exact(this A h).1
 refine JL.ghost (s':=mk E' H (B.eraseIdx i)) ⟨fun x u U=>hle x u U,fun x u U=>(IE A h U).2,fun x u U=>?_,rfl⟩ (k' E' hle ab ai);by_cases e:x=K
 ·subst e;right;have:u=o:=by have:E' x=some u:=U;rw [ab] at this;exact(Option.some.inj this).symm
  subst this;refine⟨Fp A h,?_⟩;cases ak:(mk E' H (B.eraseIdx i)).H x with
  | none=>rfl
  | some y=>exact absurd rfl (IE A h ak).1
 ·left;have Z:E' x=some u:=U;have aa:E' x=E x:=by simp [E',e]
  show E x=some u;rw [← aa];exact Z
def Fn(P:Program)(f:FuncId)(args:Array Value)(s:St)(R:Value→St→Prop):Prop:=
 ∀(J:Judge P) (Q:Goroutine→St→Prop) (c:Frame) (cs:List Frame),(∀v s',R v s'→J.ok Q (G (c.finish v) cs) s')→J.ok Q (G (Frame.enter P f args .normal) (c::cs)) s
def Cd(P:Program)(f:FuncId):Bool:=match P.funcs[f]? with | some fn=> !(fn.name== "runtime.NumGoroutine")&&fn.body.isSome | none=>false
def evs(L:Env):List Operand→Option (List Value)
 | []=>some []
 | x::xs=>match ev L x,evs L xs with | some v,some vs=>some (v::vs) | _,_=>none
theorem Dz{L:Env}{ρ:Operand→Value}(h:Cw L ρ):∀{xs:List Operand} {vs:List Value},evs L xs=some vs→xs.map ρ=vs
 | [],vs,e=>by simp [evs] at e;subst e;rfl
 | x::xs,vs,e=>by
  simp only [evs] at e
  split at e
  ·rename_i v ws A K
   cases e;rw [List.map_cons,h x v A,Dz h K]
  ·cases e
theorem FG{f:FuncId}{args:Array Value}{s:St}{Q:Next→St→Prop}{X:Halt→St→Prop}(A:Cd P f=true)(h:Q (.enter f args) s):lp P (callFunc f args) s Q X:=by
 unfold Cd at A;unfold callFunc;simp only [bind,Sem.bind,program,lp];cases K:P.funcs[f]? with
 | none=>rw [K] at A;cases A
 | some fn=>
  rw [K] at A;simp only [Bool.and_eq_true,Bool.not_eq_true'] at A;have hb:fn.body.isNone=false:=by cases O:fn.body <;> simp_all
  simp only [A.1,hb,Bool.false_eq_true,if_false];exact h
theorem JL.call{s:St}{ops:Array Oper}{i:Nat}{rest:List Nat}{d:Option Tmp}{f:FuncId}{args:Array Operand}{ats:Array TypeId}{ty:TypeId}{p:String}{af:Array Edge}{g:Option (Nat×Bool)}{vs:List Value}{R:Value→St→Prop}
  (O:ops[i]? =some ⟨d,.call ⟨.value (.func f),args,ats⟩,ty,p,af,g⟩) (hw:AS L ops ⟨d,.call ⟨.value (.func f),args,ats⟩,ty,p,af,g⟩=some true) (A:((b.kind != .early)&&A2 n d)=true) (hb:Cd P f=true)
  (U:evs L args.toList=some vs) (W:Fn P f vs.toArray s R) (Z:∀v s',R v s'→JL J Q b n (AH L d v) ds (.inRegion ops rest::k) cs s'):
  JL J Q b n L ds (.inRegion ops (i::rest)::k) cs s:=fun T K=>by
 simp only [Bool.and_eq_true] at A
 have aa:args.map (A9 T)=vs.toArray:=by
  rw [← Dz K.Dr U];apply Array.ext';simp
 refine Judge.oper O (BM K hw) (by simpa using A.1) (.inr fun c ab=>by cases ab) ?_;have ac:lp P (execOp (A9 T) ⟨d,.call ⟨.value (.func f),args,ats⟩,ty,p,af,g⟩) s (upon J Q b T ds ops i rest k cs d) (Ha J Q b T ds ops i rest k cs):=by
  simp only [execOp,resolve,bind,Sem.bind,Deferred.ofValue,A9,pure,invoke];have e: #[]++args.map (A9 T)++ #[]=vs.toArray:=by rw [aa];simp
  rw [e];refine FG hb ?_;refine W J Q _ cs fun v s' ae=>?_;rw [Dm (o:=⟨d,.call ⟨.value (.func f),args,ats⟩,ty,p,af,g⟩) _ _ _ _ _ O];exact Z v s' ae _ (K.put A.2 v)
 exact ac
def Bl(P:Program)(f:FuncId)(L:Env)(n:Nat)(s:St)(v:Value):Prop:=∃fn,P.funcs[f]? =some fn∧∀T,Has n L T→lp P (results fn T) s (fun u s'=>u=v∧s'=s) (fun _ _=>False)
theorem Judge.leave{T:Array Value}{todo:List Item}{c:Frame}{s:St}{v:Value}{fn:Func}(U:b.kind= .normal)(W:P.funcs[b.fn]? =some fn)(O:lp P (results fn T) s (fun u s'=>u=v∧s'=s) (fun _ _=>False))
  (h:J.ok Q (G (c.finish v) cs) s):J.ok Q (G (Cr b T [] todo) (c::cs)) s:=by
 refine J.step ⟨rfl,fun w f=>?_,fun e=>?_⟩
 rotate_left
 ·subst e;obtain⟨es,he,ac,O⟩:=IQ _ O;have ae:seen P b.fn es= #[]:=IB ac;rcases O with⟨u,⟨rfl,_⟩,K⟩ | ⟨x,A,_⟩
  ·exact⟨_,fun w=>by simp [G,stepG,unwind,Cr,W,K,doReturn,U,GStep.after,he,ae],h⟩
  ·exact A.elim
 obtain⟨s',Z,aa,ab,A⟩:=HE _ O f;cases K:(results fn T).run P w with
 | halt x w'=>rw [K] at A;exact A.elim
 | ok u w'=>
  rw [K] at Z aa ab A;obtain⟨rfl,rfl⟩:=A;exact⟨_,s',w',seen P b.fn ((results fn T).events P w #[])++ #[],by simp [G,stepG,unwind,Cr,W,K,doReturn,U,GStep.after],h,Z,aa,by simp only [Array.append_empty];exact I2 ab⟩
theorem JL.ret{s:St}{c:Frame}{v:Value}(K:b.kind= .normal)(O:b.roundOf=none)(A:Bl P b.fn L n s v)(h:J.ok Q (G (c.finish v) cs) s):JL J Q b n L [] (.code .ret::k) (c::cs) s:=fun T U=>by
 obtain⟨fn,W,A⟩:=A
 refine Judge.BS (g':=G (Cr b T [] (.code .ret::k)) (c::cs)) rfl (fun w=>by simp [G,stepG,stepG.exec,fr,Cr,O]) ?_
 exact Judge.leave K W (A T U) h
theorem JL.fin{s:St}{c:Frame}{v:Value}(K:b.kind= .normal)(O:b.roundOf=none)(A:Bl P b.fn L n s v)(h:J.ok Q (G (c.finish v) cs) s):JL J Q b n L [] [] (c::cs) s:=fun T U=>by
 obtain⟨fn,W,A⟩:=A
 refine Judge.BS (g':=G (Cr b T [] []) (c::cs)) rfl (fun w=>by simp [G,stepG,stepG.exec,fr,Cr,O]) ?_
 exact Judge.leave K W (A T U) h
theorem Bl.one{f:FuncId}{fn:Func}{s:St}{t:Tmp}{v:Value}(A:P.funcs[f]? =some fn)(K:fn.results= #[.tmp t])(h:look L t=some v):Bl P f L n s v:=
 ⟨fn,A,fun T O=>by
  have e:results fn T=Sem.pure v:=by
   have:=O.at_ t v h
   simp only [results,K,Array.mapM_eq_mapM_toList]
   show Sem.pure (T.getD t undef)=_
   rw [this]
  rw [e];exact⟨rfl,rfl⟩⟩
theorem Bl.none{f:FuncId}{fn:Func}{s:St}(A:P.funcs[f]? =some fn)(K:fn.results= #[]):Bl P f L n s (.tuple #[]):=
 ⟨fn,A,fun T O=>by
  have e:results fn T=Sem.pure (.tuple #[]):=by
   simp only [results,K,Array.mapM_eq_mapM_toList]
   rfl
  rw [e];exact⟨rfl,rfl⟩⟩
theorem Bl.two{f:FuncId}{fn:Func}{s:St}{t u:Tmp}{v v':Value}(K:P.funcs[f]? =some fn)(O:fn.results= #[.tmp t,.tmp u])(h:look L t=some v)(U:look L u=some v'):Bl P f L n s (.tuple #[v,v']):=
 ⟨fn,K,fun T A=>by
  have e:results fn T=Sem.pure (.tuple #[v,v']):=by
   have W:=A.at_ t v h
   have Z:=A.at_ u v' U
   simp only [results,O,Array.mapM_eq_mapM_toList]
   show Sem.pure (Value.tuple #[T.getD t undef,T.getD u undef])=_
   rw [W,Z]
  rw [e];exact⟨rfl,rfl⟩⟩
def Ds:Nat→List Value→Env
 | _,[]=> []
 | i,v::vs=>(i,v)::Ds (i+1) vs
theorem F9{i:Nat}{vs:List Value}{t:Nat}{v:Value}(h:look (Ds i vs) t=some v):i≤t∧vs[t - i]? =some v:=by
 induction vs generalizing i with
 | nil=>simp [Ds,look] at h
 | cons u vs A=>
  simp only [Ds,look] at h;split at h
  ·rename_i e;subst e;cases h;simp
  ·rename_i O;obtain⟨U,K⟩:=A h;refine⟨by omega,?_⟩;have:t - i=(t - (i+1))+1:=by omega
   rw [this];simpa using K
end
end Pal
namespace Pal
open Go Go.Conc
def Bf(P:Program)(t:TypeId):Option Nat:=(P.info? t).map (·.size)
def Cm(P:Program)(t:TypeId):Option Bool:=match P.underlying t with | some (.struct _)=>some true | some (.array _ _)=>some true | some _=>some false | none=>none
def zeroOf(P:Program)(t:TypeId):Option Value:=(P.info? t).bind (·.zero)
section
variable {P:Program}{s:St}{t:TypeId}
theorem CM{A:Nat}{Q:Nat→St→Prop}{X:Halt→St→Prop}(h:Bf P t=some A)(k:Q A s):lp P (Go.sizeOf t) s Q X:=by
 unfold Bf at h;simp only [Go.sizeOf,typeInfo,bind,Sem.bind,program,lp];cases hi:P.info? t with
 | none=>rw [hi] at h;cases h
 | some i=>rw [hi] at h;simp at h;subst h;exact k
theorem Dy{z:Value}{Q:Value→St→Prop}{X:Halt→St→Prop}(h:zeroOf P t=some z)(k:Q z s):lp P (zeroValue t) s Q X:=by
 unfold zeroOf at h;simp only [zeroValue,typeInfo,bind,Sem.bind,program,lp];cases hi:P.info? t with
 | none=>rw [hi] at h;cases h
 | some i=>
  rw [hi] at h;simp at h;show lp P (match i.zero with | some v=>pure v | none=>unsupported _) s Q X
  rw [h];exact k
theorem GN{c:Bool}{Q:Bool→St→Prop}{X:Halt→St→Prop}(h:Cm P t=some c)(k:Q c s):lp P (isAgg t) s Q X:=by
 unfold Cm at h;simp only [isAgg,underlying,bind,Sem.bind,program,lp];cases hu:P.underlying t with
 | none=>rw [hu] at h;cases h
 | some u=>
  rw [hu] at h;cases u <;> simp at h <;> subst h <;> exact k
theorem BU{u:TypeDesc}{Q:TypeDesc→St→Prop}{X:Halt→St→Prop}(h:P.underlying t=some u)(k:Q u s):lp P (underlying t) s Q X:=by
 simp only [underlying,bind,Sem.bind,program,lp,h];exact k
theorem Lp{a:Addr}{v:Value}{Q:Value→St→Prop}{X:Halt→St→Prop}(h:s.cell? a=some v)(k:Q v s):lp P (load a) s Q X:=⟨rfl,v,h,k⟩
theorem J0{a:Addr}{Q:Array Value→St→Prop}{X:Halt→St→Prop}:∀(vs:List Value) (i:Nat) (acc:Array Value),(∀j v,vs[j]? =some v→s.cell? (a.add (i+j))=some v)→Q (acc++vs.toArray) s→lp P (loadCellsFrom a i vs.length acc) s Q X
 | [],i,acc,_,k=>by simpa [loadCellsFrom,lp,pure] using k
 | v::vs,i,acc,h,k=>by
  simp only [List.length_cons,loadCellsFrom]
  refine AF _ _ (Lp (h 0 v rfl) ?_)
  refine J0 vs (i+1) (acc.push v) (fun j u A=>?_) (by simpa using k)
  have:=h (j+1) u (by simpa using A)
  rwa [show i+1+j=i+(j+1) from by omega]
theorem J7{a:Addr}{vs:List Value}{m:Nat}{Q:Array Value→St→Prop}{X:Halt→St→Prop}(hm:m=vs.length)(h:∀j v,vs[j]? =some v→s.cell? (a.add j)=some v)(k:Q vs.toArray s):lp P (loadCells a m) s Q X:=by
 subst hm;exact J0 vs 0 #[] (fun j v A=>by simpa using h j v A) (by simpa using k)
theorem NG{a:Addr}{v:Value}{Q:Value→St→Prop}{X:Halt→St→Prop}(ht:Cm P t=some false)(h:s.cell? a=some v)(k:Q v s):lp P (loadVar t a) s Q X:=by
 unfold loadVar;refine AF _ _ (GN ht ?_);exact Lp h k
theorem Kb{a:Addr}{vs:List Value}{Q:Value→St→Prop}{X:Halt→St→Prop}(ht:Cm P t=some true)(A:Bf P t=some vs.length)(h:∀j v,vs[j]? =some v→s.cell? (a.add j)=some v)(k:Q (.agg vs.toArray) s):lp P (loadVar t a) s Q X:=by
 unfold loadVar;refine AF _ _ (GN ht ?_);show lp P (do let r ← loadCells a (← Go.sizeOf t);pure (Value.agg r)) s Q X
 refine AF (x:=Go.sizeOf t) _ (CM A ?_);refine AF _ _ (J7 rfl h ?_);exact k
end
section
variable {P:Program}{ρ:Operand→Value}{s:St}{x y z:Operand}{d:Option Tmp}{t u ty e:TypeId}{p:String}{af:Array Edge}{g:Option (Nat×Bool)}{v:Value}{kd kd':IntKind}{m m':Int}
theorem Yl.Db{o:Oper}{sm:Sem Value}(A:execOp ρ o=(do pure (Next.value (← sm))))(h:lp P sm s (fun r s'=>r=v∧s'=s) (fun _ _=>False)):Yl P o ρ s v:=by
 unfold Yl;rw [A];exact AF _ _ (BV _ h (fun r s' ⟨K,O⟩=>⟨by rw [K],O⟩) (fun _ _ h=>h))
theorem Yl.load{a:Addr}(ht:Cm P t=some false)(A:ρ x= .pointer (some a))(h:s.cell? a=some v):Yl P ⟨d,.load t x,ty,p,af,g⟩ ρ s v:=
 Yl.Db (sm:=Instr.loadAt t (ρ x)) rfl (by rw [A];exact NG ht h ⟨rfl,rfl⟩)
theorem Yl.Bh{a:Addr}{vs:List Value}(ht:Cm P t=some true)(A:Bf P t=some vs.length)(K:ρ x= .pointer (some a))(h:∀j v,vs[j]? =some v→s.cell? (a.add j)=some v):Yl P ⟨d,.load t x,ty,p,af,g⟩ ρ s (.agg vs.toArray):=
 Yl.Db (sm:=Instr.loadAt t (ρ x)) rfl (by rw [K];exact Kb ht A h ⟨rfl,rfl⟩)
theorem Yl.fieldAddr{a:Addr}{A:Array Field}{i:Nat}{fl:Field}{K:Nat}(ht:P.underlying t=some (.struct A))(hi:A[i]? =some fl)(O:Bf P fl.type=some (K+1))(U:ρ x= .pointer (some a)):
  Yl P ⟨d,.fieldAddr t x i,ty,p,af,g⟩ ρ s (.pointer (some (a.add fl.offset))):=
 Yl.Db (sm:=Instr.fieldAt t (ρ x) i) rfl (by
  rw [U];unfold Instr.fieldAt
  refine AF _ _ (BU ht ?_)
  simp only [hi,Instr.sureAddr,bind,Sem.bind,pure]
  refine AF (x:=fieldPlace a fl) _ ?_
  unfold fieldPlace
  refine AF _ _ (CM O ?_)
  simp only [Nat.add_eq_zero_iff,Nat.succ_ne_self,and_false,if_false,lp,pure]
  exact⟨trivial,trivial⟩)
theorem Yl.HY{a:Addr}{l c A:Nat}(ht:P.underlying t=some (.slice e))(K:Bf P e=some A)(O:ρ x= .slice (some a) l c)(U:ρ y= .int kd m)(h:0≤m∧m<l):
  Yl P ⟨d,.indexAddr t x y,ty,p,af,g⟩ ρ s (.pointer (some (a.add (m.toNat*A)))):=
 Yl.Db (sm:=Instr.indexAt t (ρ x) (ρ y)) rfl (by
  rw [O,U];unfold Instr.indexAt
  simp only [asIntOf,bind,Sem.bind,pure]
  refine AF (x:=underlying t) _ (BU ht ?_)
  simp only [Sem.bind]
  refine AF (x:=underlying t) _ (BU ht ?_)
  simp only [Sem.bind,h,and_self,if_true]
  refine AF (x:=Go.sizeOf e) _ (CM K ?_)
  exact⟨rfl,rfl⟩)
theorem Yl.L9{a:Addr}{l A:Nat}(ht:P.underlying t=some (.array l e))(K:Bf P e=some A)(O:ρ x= .pointer (some a))(U:ρ y= .int kd m)(h:0≤m∧m<l):
  Yl P ⟨d,.indexAddr t x y,ty,p,af,g⟩ ρ s (.pointer (some (a.add (m.toNat*A)))):=
 Yl.Db (sm:=Instr.indexAt t (ρ x) (ρ y)) rfl (by
  rw [O,U];unfold Instr.indexAt
  simp only [asIntOf,bind,Sem.bind,pure]
  refine AF (x:=underlying t) _ (BU ht ?_)
  simp only [Sem.bind,Instr.sureAddr,pure]
  refine AF (x:=underlying t) _ (BU ht ?_)
  simp only [Sem.bind,h,and_self,if_true]
  refine AF (x:=Go.sizeOf e) _ (CM K ?_)
  exact⟨rfl,rfl⟩)
end
section
variable {P:Program}{J:Judge P}{Q:Goroutine→St→Prop}{b:Frame}{n:Nat}{L L':Env}{ds:List Deferred}{k:List Item}{cs:List Frame}{E H:LH}{B B':List (Nat×Obj)}
variable {ops:Array Oper}{i:Nat}{rest:List Nat}{d:Option Tmp}{x y:Operand}{t u ty e:TypeId}{p:String}{af:Array Edge}{g:Option (Nat×Bool)}{v:Value}
theorem Es{cells:Array Value}{Q:Addr→St→Prop}{X:Halt→St→Prop}(A:Nd E H B)(k:∀r,Nd E H (B++ [(r,.cells cells e (0,0))])→Q ⟨r,0,none⟩ (mk E H (B++ [(r,.cells cells e (0,0))]))):lp P (newRow e cells) (mk E H B) Q X:=by
 simp only [newRow,newObj,bind,Sem.bind,lp,pure];refine⟨rfl,fun r K O=>?_⟩;obtain⟨U,W⟩:=Ge K O (.cells cells e (0,0)) A;rw [W];exact k r U
theorem JL.alloc{z:Value}(A:ops[i]? =some ⟨d,.alloc e,ty,p,af,g⟩)(hw:AS L ops ⟨d,.alloc e,ty,p,af,g⟩=some true)(K:BC b n ⟨d,.alloc e,ty,p,af,g⟩=true)(O:Nd E H B)(U:zeroOf P e=some z)
  (h:∀r,Nd E H (B++ [(r,.cells z.cells e (0,0))])→JL J Q b n (AH L d (.pointer (some ⟨r,0,none⟩))) ds (.inRegion ops rest::k) cs (mk E H (B++ [(r,.cells z.cells e (0,0))]))):
  JL J Q b n L ds (.inRegion ops (i::rest)::k) cs (mk E H B):=
 JL.op A hw K fun ρ _=>by
  show lp P (do pure (Next.value (← Instr.alloc e true (.tuple #[])))) _ _ _
  refine AF _ _ ?_
  unfold Instr.alloc
  refine AF _ _ (Dy U ?_)
  refine AF _ _ (Es O fun r W=>?_)
  exact h r W
theorem JL.box(A:ops[i]? =some ⟨d,.box e x,ty,p,af,g⟩)(hw:AS L ops ⟨d,.box e x,ty,p,af,g⟩=some true)(K:BC b n ⟨d,.box e x,ty,p,af,g⟩=true)(O:Nd E H B)(U:ev L x=some v)
  (h:∀r,Nd E H (B++ [(r,.cells v.cells e (0,0))])→JL J Q b n (AH L d (.pointer (some ⟨r,0,none⟩))) ds (.inRegion ops rest::k) cs (mk E H (B++ [(r,.cells v.cells e (0,0))]))):
  JL J Q b n L ds (.inRegion ops (i::rest)::k) cs (mk E H B):=
 JL.op A hw K fun ρ W=>by
  show lp P (do pure (Next.value (← Instr.box e (ρ x)))) _ _ _
  rw [W x v U]
  refine AF _ _ ?_
  unfold Instr.box
  refine AF _ _ (Es O fun r Z=>?_)
  exact h r Z
def AL(c:Array Value)(off:Nat):List Value→Array Value
 | []=>c
 | v::vs=>AL (c.setIfInBounds off v) (off+1) vs
theorem IJ(c:Array Value)(off:Nat)(vs:List Value):(AL c off vs).size=c.size:=by
 induction vs generalizing c off with
 | nil=>rfl
 | cons v vs A=>simp [AL,A]
theorem Iz{A:Nat}{Q:Unit→St→Prop}{X:Halt→St→Prop}{pl off:Nat}{sp:Option Nat}:∀(vs:List Value) (j:Nat) (c:Array Value) (B:List (Nat×Obj)),(∀v∈vs,Bs v=true)→Nd E H B→B[pl]? =some (A,.cells c e (0,0))→off+j+vs.length≤c.size→(sp=none∨0<j)→
  (∀B',B'=B.set pl (A,.cells (AL c (off+j) vs) e (0,0))→Nd E H B'→Q () (mk E H B'))→lp P (storeCells ⟨A,off,sp⟩ vs j) (mk E H B) Q X
 | [],j,c,B,_,O,K,_,_,k=>by
  simp only [storeCells,lp,pure]
  refine k B ?_ O
  simp only [AL]
  exact(List.ext_getElem? fun i=>by
   by_cases hi:pl=i
   ·subst hi
    obtain⟨Z,aa⟩:=List.getElem?_eq_some_iff.1 K
    simp [Z,aa]
   ·simp [hi])
 | v::vs,j,c,B,U,O,K,hle,W,k=>by
  simp only [storeCells,List.length_cons] at*
  have ab:off+j<c.size:=by omega
  have ac:(Addr.add ⟨A,off,sp⟩ j)=⟨A,off+j,none⟩:=by
   unfold Addr.add;split
   ·rename_i ae;subst ae;rcases W with rfl | W
    ·rfl
    ·omega
   ·rfl
  have ag:(cellAt (.cells c e (0,0)) ⟨A,off+j,none⟩).isSome=true:=by simp [cellAt,ab]
  refine AF (x:=store (Addr.add ⟨A,off,sp⟩ j) v) _ ?_;rw [ac];refine⟨rfl,U v (by simp),_,Fp O K,ag,by simp [frozenAt],?_⟩;simp only [lp];have ah:FX (.cells c e (0,0)) ⟨A,off+j,none⟩ v= .cells (c.setIfInBounds (off+j) v) e (0,0):=by simp [FX]
  rw [ah,P7 O K];have ai:(B.set pl (A,.cells (c.setIfInBounds (off+j) v) e (0,0)))[pl]? =some (A,.cells (c.setIfInBounds (off+j) v) e (0,0)):=by
   have:pl<B.length:=(List.getElem?_eq_some_iff.1 K).1;simp [this]
  refine Iz vs (j+1) _ _ (fun u hu=>U u (List.mem_cons_of_mem _ hu)) (O.set K) ai (by simp;omega) (.inr (by omega)) fun aj ak al=>k aj ?_ al;rw [ak,List.set_set];simp only [AL]
  rfl
theorem J9{A off pl:Nat}{c:Array Value}{Q:Unit→St→Prop}{X:Halt→St→Prop}(K:Bf P t=some v.cells.size)(O:∀u∈v.cells.toList,Bs u=true)(U:Nd E H B)(W:B[pl]? =some (A,.cells c e (0,0)))(hle:off+v.cells.size≤c.size)
  (k:Nd E H (B.set pl (A,.cells (AL c off v.cells.toList) e (0,0)))→Q () (mk E H (B.set pl (A,.cells (AL c off v.cells.toList) e (0,0))))):lp P (storeVar t ⟨A,off,none⟩ v) (mk E H B) Q X:=by
 unfold storeVar;refine AF _ _ (CM K ?_);simp only [ne_eq,not_true_eq_false,if_false];refine Iz v.cells.toList 0 c B O U W (by simpa using hle) (.inl rfl) fun B' e Z=>?_;subst e;exact k Z
theorem JL.store{A off:Nat}{c:Array Value}(pl:Nat)(O:ops[i]? =some ⟨d,.store t x y,ty,p,af,g⟩)(hw:AS L ops ⟨d,.store t x y,ty,p,af,g⟩=some true)(U:BC b n ⟨d,.store t x y,ty,p,af,g⟩=true)(W:Nd E H B)
  (Z:ev L x=some (.pointer (some ⟨A,off,none⟩))) (aa:ev L y=some v) (ab:Bf P t=some v.cells.size) (ac:∀u∈v.cells.toList,Bs u=true) (ae:B[pl]? =some (A,.cells c e (0,0))) (hle:off+v.cells.size≤c.size)
  (h:Nd E H (B.set pl (A,.cells (AL c off v.cells.toList) e (0,0)))→JL J Q b n (AH L d undef) ds (.inRegion ops rest::k) cs (mk E H (B.set pl (A,.cells (AL c off v.cells.toList) e (0,0))))):
  JL J Q b n L ds (.inRegion ops (i::rest)::k) cs (mk E H B):=
 JL.op O hw U fun ρ K=>by
  show lp P (do Instr.storeAt t (ρ x) (ρ y);pure Next.skip) _ _ _
  rw [K x _ Z,K y _ aa]
  refine AF _ _ ?_
  unfold Instr.storeAt
  simp only [Instr.sureAddr,bind,Sem.bind,pure]
  exact J9 ab ac W ae hle fun ag=>h ag
end
end Pal
namespace Pal
open Go Go.Conc
def CH(P:Program)(t:TypeId):Option Nat:=(P.info? t).map (·.bytes)
section
variable {P:Program}{J:Judge P}{Q:Goroutine→St→Prop}{b:Frame}{n:Nat}{L L':Env}{ds:List Deferred}{k:List Item}{cs:List Frame}{E H:LH}{B B':List (Nat×Obj)}{s:St}
variable {ops:Array Oper}{i:Nat}{rest:List Nat}{d:Option Tmp}{x y:Operand}{t u ty e:TypeId}{p:String}{af:Array Edge}{g:Option (Nat×Bool)}{v:Value}
theorem Fh{inf:TypeInfo}{Q:TypeInfo→St→Prop}{X:Halt→St→Prop}(h:P.info? t=some inf)(k:Q inf s):lp P (typeInfo t) s Q X:=by
 simp only [typeInfo,bind,Sem.bind,program,lp,h];exact k
theorem Hz{A:Nat}(h:CH P t=some A):∃inf,P.info? t=some inf∧inf.bytes=A:=by
 unfold CH at h;cases hi:P.info? t with
 | none=>rw [hi] at h;cases h
 | some i=>rw [hi] at h;simp at h;exact⟨i,rfl,h⟩
theorem EM{β:Type}{z y:Nat}{code:BoundsCode}{f:Nat→Sem β}{A:β→St→Prop}{X:Halt→St→Prop}(U:z≤y)(K:lp P (f z) s A X):lp P (Instr.sliceBound (.int .i64 z) y code>>=f) s A X:=by
 refine AF _ _ ?_;unfold Instr.sliceBound;have O:(0:Int)≤(z:Int)∧(z:Int)≤(y:Int):=⟨by omega,by omega⟩;simp only [asIntOf,bind,Sem.bind,pure];rw [if_pos O];simpa [lp] using K
theorem Eo{α β:Type}(a:α)(f:α→Sem β):((pure a:Sem α)>>=f)=f a:=rfl
theorem RD{l c:Nat}{X:Halt→St→Prop}:lp P (Instr.sliceBounds true l c none none none) s (fun r s'=>r=(0,l,c)∧s'=s) X:=by
 unfold Instr.sliceBounds;exact⟨rfl,rfl⟩
theorem Re{l c:Nat}{lo:Nat}(A:lo≤l){X:Halt→St→Prop}:lp P (Instr.sliceBounds true l c (some (.int .i64 lo)) none none) s (fun r s'=>r=(lo,l,c)∧s'=s) X:=by
 simp only [Instr.sliceBounds,if_true,Option.isSome_none,Option.isSome_some,Bool.false_eq_true,if_false,Eo];exact EM A ⟨rfl,rfl⟩
theorem RA{l c:Nat}{hi:Nat}(hh:hi≤c){X:Halt→St→Prop}:lp P (Instr.sliceBounds true l c none (some (.int .i64 hi)) none) s (fun r s'=>r=(0,hi,c)∧s'=s) X:=by
 simp only [Instr.sliceBounds,if_true,Option.isSome_none,Option.isSome_some,Bool.false_eq_true,if_false,Eo];exact EM hh ⟨rfl,rfl⟩
theorem RL{l c:Nat}{lo hi:Nat}(hh:hi≤c)(A:lo≤hi){X:Halt→St→Prop}:lp P (Instr.sliceBounds true l c (some (.int .i64 lo)) (some (.int .i64 hi)) none) s (fun r s'=>r=(lo,hi,c)∧s'=s) X:=by
 have e:Instr.sliceBounds true l c (some (.int .i64 lo)) (some (.int .i64 hi)) none=(Instr.sliceBound (.int .i64 hi) c .sliceAcap>>=fun h=>Instr.sliceBound (.int .i64 lo) h .sliceB>>=fun l=>pure (l,h,c)):=by
  simp [Instr.sliceBounds]
 rw [e];exact EM hh (EM A ⟨rfl,rfl⟩)
theorem Rq{l c:Nat}{hi mx:Nat}(hm:mx≤c)(hh:hi≤mx){X:Halt→St→Prop}:lp P (Instr.sliceBounds true l c none (some (.int .i64 hi)) (some (.int .i64 mx))) s (fun r s'=>r=(0,hi,mx)∧s'=s) X:=by
 simp only [Instr.sliceBounds,if_true,Option.isSome_none,Option.isSome_some,Bool.false_eq_true,if_false,Eo];exact EM hm (EM hh ⟨rfl,rfl⟩)
theorem Ro{l c:Nat}{lo hi mx:Nat}(hm:mx≤c)(hh:hi≤mx)(A:lo≤hi){X:Halt→St→Prop}:lp P (Instr.sliceBounds true l c (some (.int .i64 lo)) (some (.int .i64 hi)) (some (.int .i64 mx))) s (fun r s'=>r=(lo,hi,mx)∧s'=s) X:=by
 simp only [Instr.sliceBounds,if_true,Option.isSome_none,Option.isSome_some,Bool.false_eq_true,if_false,Eo];exact EM hm (EM hh (EM A ⟨rfl,rfl⟩))
theorem N2{l c lo hi mx:Nat}{U W Z:Option Value}{X:Halt→St→Prop}
  (K:match Z with | some w=>w= .int .i64 mx | none=>mx=c) (A:match W with | some w=>w= .int .i64 hi | none=>hi=l∧Z=none) (O:match U with | some w=>w= .int .i64 lo | none=>lo=0) (hm:mx≤c) (hh:hi≤mx) (aa:lo≤hi):
  lp P (Instr.sliceBounds true l c U W Z) s (fun r s'=>r=(lo,hi,mx)∧s'=s) X:=by
 cases Z with
 | none=>
  cases W with
  | none=>
   cases U with
   | none=>obtain rfl:mx=c:=K;obtain rfl:hi=l:=A.1;obtain rfl:lo=0:=O;exact RD
   | some w=>obtain rfl:mx=c:=K;obtain rfl:hi=l:=A.1;obtain rfl:w= .int .i64 lo:=O;exact Re aa
  | some w=>
   cases U with
   | none=>obtain rfl:mx=c:=K;obtain rfl:w= .int .i64 hi:=A;obtain rfl:lo=0:=O;exact RA hh
   | some w'=>obtain rfl:mx=c:=K;obtain rfl:w= .int .i64 hi:=A;obtain rfl:w'= .int .i64 lo:=O;exact RL hh aa
 | some w0=>
  cases W with
  | none=>exact absurd A.2 (fun h=>by cases h)
  | some w=>
   cases U with
   | none=>obtain rfl:w0= .int .i64 mx:=K;obtain rfl:w= .int .i64 hi:=A;obtain rfl:lo=0:=O;exact Rq hm hh
   | some w'=>obtain rfl:w0= .int .i64 mx:=K;obtain rfl:w= .int .i64 hi:=A;obtain rfl:w'= .int .i64 lo:=O;exact Ro hm hh aa
theorem OR{a:Option Addr}{l c K lo hi mx:Nat}{O U A:Option Value}{Q:Value→St→Prop}{X:Halt→St→Prop}(ht:P.underlying t=some (.slice e))(W:Bf P e=some K)
  (Z:match A with | some w=>w= .int .i64 mx | none=>mx=c) (aa:match U with | some w=>w= .int .i64 hi | none=>hi=l∧A=none) (ab:match O with | some w=>w= .int .i64 lo | none=>lo=0) (hm:mx≤c) (hh:hi≤mx) (ac:lo≤hi)
  (k:Q (.slice (if mx=lo then a else a.map (·.add (lo*K))) (hi - lo) (mx - lo)) s):lp P (Instr.slice t (.slice a l c) O U A) s Q X:=by
 unfold Instr.slice;refine AF _ _ (BU ht ?_);have hb:=N2 (P:=P) (s:=s) (X:=X) Z aa ab hm hh ac;refine AF _ _ (BV _ hb ?_ (fun _ _ h=>h));rintro r s' ⟨rfl,rfl⟩;exact AF _ _ (CM W k)
theorem Yl.slice{ρ:Operand→Value}{a:Option Addr}{l c K lo hi mx:Nat}{olo ohi omx:Option Operand}(ht:P.underlying t=some (.slice e))(O:Bf P e=some K)(U:ρ x= .slice a l c)
  (W:match omx with | some w=>ρ w= .int .i64 mx | none=>mx=c) (A:match ohi with | some w=>ρ w= .int .i64 hi | none=>hi=l∧omx=none) (Z:match olo with | some w=>ρ w= .int .i64 lo | none=>lo=0) (hm:mx≤c) (hh:hi≤mx) (aa:lo≤hi):
  Yl P ⟨d,.slice t x olo ohi omx,ty,p,af,g⟩ ρ s (.slice (if mx=lo then a else a.map (·.add (lo*K))) (hi - lo) (mx - lo)):=
 Yl.Db (sm:=Instr.sliceAt t (ρ x) (olo.map ρ) (ohi.map ρ) (omx.map ρ)) rfl (by
  rw [U];unfold Instr.sliceAt
  refine AF _ _ (BU ht ?_)
  refine OR ht O (mx:=mx) (hi:=hi) (lo:=lo) ?_ ?_ ?_ hm hh aa ⟨rfl,rfl⟩
  ·cases omx <;> exact W
  ·cases ohi with
   | none=>exact⟨A.1,by rw [A.2];rfl⟩
   | some w=>exact A
  ·cases olo <;> exact Z)
def DG(s:St)(v:Value)(A:Nat)(xs:List Value):Prop:=
 match v with
 | .slice (some a) l c=>a.spot=none∧xs.length=l*A∧l≤c∧∀j w,xs[j]? =some w→s.cell? ⟨a.block,a.off+j,none⟩=some w
 | .slice none l _=>l=0∧xs= []
 | _=>False
theorem Ba{a:Addr}(h:a.spot=none)(j:Nat):a.add j=⟨a.block,a.off+j,none⟩:=by
 unfold Addr.add;obtain⟨b,o,sp⟩:=a;simp only at h;subst h;split
 ·rename_i e;subst e;rfl
 ·rfl
theorem F8{A l:Nat}{xs:List Value}{Q:Array Value→St→Prop}{X:Halt→St→Prop}(O:∃a c,v= .slice a l c)(h:DG s v A xs)(k:Q xs.toArray s):lp P (Builtin.firstCells A l v) s Q X:=by
 obtain⟨a,c,rfl⟩:=O;cases a with
 | none=>
  obtain⟨K,rfl⟩:=h;exact k
 | some a=>
  obtain⟨K,U,aa,W⟩:=h;exact J7 U.symm (fun j w Z=>by rw [Ba K];exact W j w Z) k
theorem Ot(nl:Nat):∀(r c:Nat),Builtin.growBy nl r c≤max c (2*nl+768):=by
 intro r
 induction r with
 | zero=>intro c;simp [Builtin.growBy];omega
 | succ r A=>
  intro c;simp only [Builtin.growBy];split
  ·omega
  ·rename_i h;have:=A (c+(c+768) / 4);omega
theorem Kk{need old:Nat}(h:old<need):Builtin.nextslicecap need old≤2*need+768:=by
 unfold Builtin.nextslicecap;split
 ·omega
 ·split
  ·omega
  ·have:=Ot need 4 old;omega
theorem J1(z:Array Value)(m:Nat):(Builtin.zeroCells z m).size=m*z.size:=by simp [Builtin.zeroCells]
def H8(B:List (Nat×Obj))(pl:Nat)(e:TypeId)(A:Nat)(a:Option Addr)(l c:Nat)(xs:List Value):Prop:=
 (a=none∧l=0∧c=0∧xs= [])∨∃K f,a=some ⟨K,0,none⟩∧B[pl]? =some (K,.cells f e (0,0))∧f.size=c*A∧l≤c∧xs=f.toList.take (l*A)
theorem J5(c:Array Value)(off:Nat)(vs:List Value)(h:off+vs.length≤c.size):(AL c off vs).toList.take (off+vs.length)=c.toList.take off++vs:=by
 induction vs generalizing c off with
 | nil=>simp [AL]
 | cons v vs K=>
  simp only [AL,List.length_cons] at*;have:=K (c.setIfInBounds off v) (off+1) (by simp;omega);rw [show off+(vs.length+1)=off+1+vs.length from by omega,this];have A:off<c.toList.length:=by simp;omega
  rw [Array.toList_setIfInBounds,List.take_add_one];have O:(c.toList.set off v)[off]? =some v:=by simp at A;simp [A]
  rw [O];simp [List.take_set_of_le]
theorem DG.read{A:Nat}{xs:List Value}{a:Addr}{l c:Nat}(h:DG s (.slice (some a) l c) A xs){j:Nat}{w:Value}(K:xs[j]? =some w):s.cell? (a.add j)=some w:=by
 obtain⟨O,W,Z,U⟩:=h;rw [Ba O];exact U j w K
theorem IM{ats:Array TypeId}{a:Option Addr}{l c A W m cx:Nat}{ax:Option Addr}{xs ys:List Value}{z:Value}{Q:Value→St→Prop}{X:Halt→St→Prop}{pl:Nat}
  (au:ats[0]? =some t) {t1 av:TypeId} (aw:ats[1]? =some t1) (ay:P.underlying t1=some (.slice av)) (ht:P.underlying t=some (.slice e)) (az:Bf P e=some A) (hb:CH P e=some W) (aA:zeroOf P e=some z) (aB:z.cells.size=A)
  (ah:Nd E H B) (hs:H8 B pl e A a l c xs)
  (ae:DG (mk E H B) (.slice ax m cx) A ys) (aC:∀w∈ys,Bs w=true) (aN:0<W) (aO:l+m≤2 ^ 40) (aD:W≤64)
  (aE:∀K f O,a=some ⟨K,0,none⟩→B[pl]? =some (K,.cells f e (0,0))→O=AL f (l*A) ys→l+m≤c→O.size=c*A→O.toList.take ((l+m)*A)=xs++ys→Nd E H (B.set pl (K,.cells O e (0,0)))→Q (.slice a (l+m) c) (mk E H (B.set pl (K,.cells O e (0,0)))))
  (aF:a=none→m=0→Q (.slice none 0 0) (mk E H B))
  (aG:∀r O Z,l+m≤Z→O.size=Z*A→O.toList.take ((l+m)*A)=xs++ys→Nd E H (B++ [(r,.cells O e (0,0))])→Q (.slice (some ⟨r,0,none⟩) (l+m) Z) (mk E H (B++ [(r,.cells O e (0,0))]))):
  lp P (Builtin.append_ ats ty #[.slice a l c,.slice ax m cx]) (mk E H B) Q X:=by
 unfold Builtin.append_;simp only [au,aw,List.getElem?_toArray,List.getElem?_cons_zero,List.getElem?_cons_succ];refine AF _ _ (BU ht ?_);refine AF _ _ (CM az ?_);refine AF _ _ (BU ay ?_);simp only [Eo,Bool.false_eq_true,if_false,Builtin.lenOf,Bool.not_false,if_true];have aa:ys.length=m*A:=by
  cases ax with
  | none=>obtain⟨ai,aj⟩:=ae;subst ai aj;simp
  | some ad=>exact ae.2.1
 have ak:∃(aH:Option Addr) (Z:Nat),DG (mk E H B) (.slice a l c) A xs∧aH=a∧Z=c:=by
  refine⟨a,c,?_,rfl,rfl⟩;rcases hs with⟨rfl,rfl,rfl,rfl⟩ | ⟨K,f,rfl,ab,U,ac,rfl⟩
  ·exact⟨rfl,rfl⟩
  ·have hle:l*A≤f.size:=by rw [U];exact Nat.mul_le_mul_right _ ac
   refine⟨rfl,by simp [Nat.min_eq_left hle],ac,fun j w ag=>?_⟩;refine Lc ah ab ?_;simp only [Nat.zero_add];rw [List.getElem?_take] at ag;split at ag
   ·simpa using ag
   ·cases ag
 obtain⟨_,_,ak,_,_⟩:=ak;have al:xs.length=l*A:=by
  rcases hs with⟨rfl,rfl,rfl,rfl⟩ | ⟨K,f,rfl,ab,U,ac,rfl⟩
  ·simp
  ·have hle:l*A≤f.size:=by rw [U];exact Nat.mul_le_mul_right _ ac
   simp [Nat.min_eq_left hle]
 split
 ·rename_i aq;refine AF _ _ (F8 ⟨ax,cx,rfl⟩ ae ?_);rcases hs with⟨rfl,rfl,rfl,rfl⟩ | ⟨K,f,rfl,ab,U,ac,rfl⟩
  ·obtain rfl:m=0:=by omega
   simp only;exact aF rfl rfl
  ·simp only;have hle:l*A+ys.length≤f.size:=by rw [aa,U,← Nat.add_mul];exact Nat.mul_le_mul_right _ aq
   have aI:(Addr.add ⟨K,0,none⟩ (l*A))=⟨K,l*A,none⟩:=by rw [Ba rfl];simp
   rw [aI];refine AF _ _ (Iz (pl:=pl) ys.toArray.toList 0 f B (by simpa using aC) ah ab (by simpa using hle) (.inl rfl) fun B' ar am=>?_);simp only [Nat.add_zero] at ar;subst ar;refine aE K f _ rfl ab rfl aq (by rw [IJ,U]) ?_ am;have:=J5 f (l*A) ys hle;rw [aa,← Nat.add_mul] at this;exact this
 ·rename_i aP;have ai:¬(((l+m:Nat):Int)>IntKind.i64.max∧(False∨W=0)):=by rintro⟨_,h | h⟩ <;> omega
  have aj:¬(Builtin.nextslicecap (l+m) c*W>2 ^ 48):=by
   have:=Kk (need:=l+m) (old:=c) (by omega);have aQ:Builtin.nextslicecap (l+m) c*W≤(2*(l+m)+768)*64:=Nat.mul_le_mul this aD;omega
  obtain⟨inf,an,ao⟩:=Hz hb;refine AF _ _ (Fh an ?_);rw [ao,if_neg ai];refine AF _ _ (Fh an ?_);rw [ao,if_neg aj];refine AF _ _ ?_;simp only [choose,lp,Question.forced,Bool.false_eq_true,if_false];refine⟨rfl,fun aJ=>?_⟩;generalize aK:(Question.appendCap (l+m) c e).cut aJ=ap;have aL:l+m≤ap:=by rw [← aK];simp [Question.cut]
  refine AF _ _ (Fh an ?_);rw [ao];have aM:∀{α:Type} {f:Unit→Sem α} {Q:α→St→Prop},lp P (f ()) (mk E H B) Q X→lp P (askRoom (ap*W)>>=f) (mk E H B) Q X:=by
   intro α f Q U;refine AF _ _ ?_;unfold askRoom;split
   ·exact⟨.inl ⟨rfl,rfl⟩,U⟩
   ·exact U
  refine aM ?_;refine AF _ _ (F8 ⟨a,c,rfl⟩ ak ?_);refine AF _ _ (F8 ⟨ax,cx,rfl⟩ ae ?_);refine AF _ _ (Dy aA ?_);refine AF _ _ (Es ah fun r am=>?_);refine aG r _ ap aL ?_ ?_ am
  ·simp only [Array.size_append,List.size_toArray,J1,aB,al,aa];rw [← Nat.add_mul,← Nat.add_mul];congr 1;omega
  ·simp only [Array.toList_append];rw [List.take_append_of_le_length (by simp [al,aa,Nat.add_mul])];rw [List.take_of_length_le (by simp [al,aa,Nat.add_mul])]
end
end Pal
namespace Pal
open Go Go.Conc
theorem Io{P:Program}{α:Type}(x:Sem α):∀{s:St} {Q:α→St→Prop} {X:Halt→St→Prop},lp P x s Q X→lp P x s (fun a s'=>Q a s'∧s'.E=s.E∧s'.q=s.q) X:=by
 induction x with
 | pure a=>intro s Q X h;exact⟨h,rfl,rfl⟩
 | load m a k A=>intro s Q X h;obtain⟨K,v,O,U⟩:=h;exact⟨K,v,O,A _ U⟩
 | store m a v k A=>intro s Q X h;obtain⟨K,O,o,U,Z,aa,ab⟩:=h;exact⟨K,O,o,U,Z,aa,A ab⟩
 | new o k A=>intro s Q X h;exact⟨h.1,fun r K O=>A _ (h.2 r K O)⟩
 | shape r k A=>intro s Q X h;obtain⟨o,K,O⟩:=h;exact⟨o,K,A _ O⟩
 | freeze a n k A=>intro s Q X h;exact h
 | frozen a k A=>intro s Q X h;obtain⟨o,K,O⟩:=h;exact⟨o,K,A _ O⟩
 | getObj r k A=>intro s Q X h;obtain⟨o,K,O,U⟩:=h;exact⟨o,K,O,A _ U⟩
 | setObj r o k A=>intro s Q X h;obtain⟨K,O,U⟩:=h;exact⟨K,O,A U⟩
 | choose q k A=>
  intro s Q X h;simp only [lp] at h ⊢;split
  ·rename_i W;rw [if_pos W] at h;exact A _ h
  ·rename_i W;rw [if_neg W] at h;exact⟨h.1,fun t=>A _ (h.2 t)⟩
 | sys c k A=>intro s Q X h;exact h
 | program k A=>intro s Q X h;exact A _ h
 | mark m k A=>intro s Q X h;exact⟨h.1,A h.2⟩
 | halt h=>intro s Q X h;exact h
def A8(D:Nat→Bool)(s:St):St:=⟨fun b=>if D b then s.get b else s.E b,fun b=>if D b then none else s.H b,s.q⟩
def Bx(D:Nat→Bool)(s s':St):St:=⟨fun b=>if D b then s.E b else s'.E b,fun b=>if D b then s.H b else s'.H b,s'.q⟩
theorem GM(D:Nat→Bool)(s:St):Bx D s (A8 D s)=s:=by
 obtain⟨E,H,q⟩:=s;unfold Bx A8;congr 1
 ·funext b;by_cases h:D b <;> simp [h]
 ·funext b;by_cases h:D b <;> simp [h]
theorem OD{D:Nat→Bool}{s:St}{w:World}(f:Fits s w):Fits (A8 D s) w where
 e b o h:=by
  by_cases A:D b
  ·simp [A8,A] at h;exact f.get h
  ·simp [A8,A] at h;exact f.e b o h
 h b o h:=by
  by_cases A:D b
  ·simp [A8,A] at h
  ·simp [A8,A] at h;exact f.h b o h
 d b h:=by
  by_cases A:D b
  ·simp [A8,A]
  ·simp [A8,A] at h ⊢;exact f.d b h
def Ch{P:Program}(J:Judge P)(f:FuncId)(args:Array Value)(s:St)(R:Value→St→Prop):Prop:=
 ∀(Q:Goroutine→St→Prop) (c:Frame) (cs:List Frame),(∀v s',R v s'→J.ok Q (G (c.finish v) cs) s')→J.ok Q (G (Frame.enter P f args .normal) (c::cs)) s
theorem Ch.mono{P:Program}{J:Judge P}{f:FuncId}{args:Array Value}{s:St}{R A:Value→St→Prop}(h:Ch J f args s R)(K:∀v s',R v s'→A v s'):Ch J f args s A:=
 fun Q c cs O=>h Q c cs fun v s' U=>O v s' (K v s' U)
section
variable {P:Program}{J:Judge P}{Q:Goroutine→St→Prop}{b:Frame}{n:Nat}{L L':Env}{ds:List Deferred}{k:List Item}{cs:List Frame}{s s':St}
theorem Judge.LR(D:Nat→Bool){T:Array Value}{ops:Array Oper}{i:Nat}{rest:List Nat}{o:Oper}(W:ops[i]? =some o)(hw:Region.wanted o (yielded ops T)=true)(ar:b.kind≠ .early)
  (au:∀c,o.op≠ .defer c) (av:s.q=false)
  (h:lp P (execOp (A9 T) o) (A8 D s) (fun nx s'=>upon J Q b T ds ops i rest k cs o.dst nx (Bx D s s')) (fun _ _=>False)):
  J.ok Q (G (fr b T ds (.inRegion ops (i::rest)::k)) cs) s:=by
 refine J.step ⟨rfl,fun w f=>?_,fun e=>by subst e;cases av⟩;have Z:((fr b T ds (.inRegion ops (i::rest)::k)).kind==CallKind.early)=false:=by simpa [fr] using ar
 have aw:stepG P J.main (G (fr b T ds (.inRegion ops (i::rest)::k)) cs) w=stepG.apply P true (fr b T ds (.inRegion ops (i::rest)::k)) cs none (execOp (A9 T) o) w:=by
  rw [stepG_op W hw];split
  ·rename_i l c aF ay;exact absurd ay (au c)
  ·rfl
 obtain⟨aa,ag,ah,az,K⟩:=HE _ (Io _ h) (OD (D:=D) f);have ai:=I2 (P:=P) (fn:=b.fn) az;have am:=fun v=>Dm (b:=b) (ds:=ds) (k:=k) T ops i rest v o W;have key:∀w',Fits aa w'→Fr (A8 D s) w aa w'→aa.E=(A8 D s).E→Fits (Bx D s aa) w'∧Fr s w (Bx D s aa) w':=by
  intro w' aj O aA;have an:∀b,D b=true→b<w.heap.size→w'.heap[b]? =w.heap[b]? :=fun b hb ak=>O.keep b ak (by simp [A8,hb]);have ao:∀b o,(s.H b=some o∨s.E b=some o)→b<w.heap.size:=fun b o W=>by
   have:=W.elim (f.h b o) (f.e b o);rcases Nat.lt_or_ge b w.heap.size with al | al
   ·exact al
   ·simp [Array.getElem?_eq_none al] at this
  refine⟨⟨fun b o hb=>?_,fun b o hb=>?_,fun b hb=>?_⟩,⟨O.size,fun b ak hb=>?_,fun b hb=>?_,fun b o hb=>?_,fun b hb=>?_,O.tape,O.os,O.output⟩⟩
  ·by_cases A:D b
   ·simp [Bx,A] at hb;rw [an b A (ao b o (.inr hb))];exact f.e b o hb
   ·simp [Bx,A] at hb;exact aj.e b o hb
  ·by_cases A:D b
   ·simp [Bx,A] at hb;rw [an b A (ao b o (.inl hb))];exact f.h b o hb
   ·simp [Bx,A] at hb;exact aj.h b o hb
  ·by_cases A:D b
   ·simp [Bx,A] at hb ⊢;exact f.d b hb
   ·simp [Bx,A] at hb ⊢;exact aj.d b hb
  ·exact O.keep b ak (by by_cases A:D b <;> simp [A8,A,hb])
  ·by_cases A:D b
   ·simp [Bx,A] at hb;exact .inl hb
   ·simp [Bx,A] at hb;rcases O.own b hb with q | q
    ·left;simpa [A8,A] using q
    ·exact .inr q
  ·by_cases A:D b
   ·simp [Bx,A];exact hb
   ·simp only [Bx,A,Bool.false_eq_true,if_false];rw [aA];simp [A8,A,hb]
  ·by_cases A:D b
   ·simp [Bx,A] at hb;exact .inl hb
   ·simp [Bx,A] at hb;rcases O.Ct b hb with q | q | q
    ·left;simpa [A8,A] using q
    ·right;left;simpa [A8,A] using q
    ·exact .inr (.inr q)
 have aB:∀w',(∀e∈seen P b.fn ((execOp (A9 T) o).events P w #[]),Ev (A8 D s) w w' e)→∀e∈seen P b.fn ((execOp (A9 T) o).events P w #[]),Ev s w w' e:=by
  intro w' he e hm;have:=he e hm;have ap:∀{b wr},Dq (A8 D s) w w' b wr→Dq s w w' b wr:=by
   intro b wr ht;refine⟨ht.1,?_⟩;rcases ht.2 with q | q | ⟨q,aq⟩
   ·left;by_cases A:D b <;> simp [A8,A] at q;exact q
   ·exact .inr (.inl q)
   ·by_cases A:D b
    ·simp [A8,A,St.get] at q;by_cases ae:s.E b=none
     ·left;intro aC;rw [ae,aC] at q;exact q rfl
     ·exact .inr (.inr ⟨ae,aq⟩)
    ·simp [A8,A] at q;exact .inr (.inr ⟨q,aq⟩)
  unfold Ev at this ⊢;split <;> rename_i aD <;> simp only [aD] at this
  ·exact⟨this.1,ap this.2⟩
  ·exact⟨this.1,ap this.2⟩
  ·trivial
  ·trivial
 rw [aw];cases U:(execOp (A9 T) o).run P w with
 | ok nx w'=>
  rw [U] at ag ah K ai;simp only [F0] at ag ah ai;obtain⟨K,ae,_⟩:=K;obtain⟨k1,ab⟩:=key w' ag ah ae;have ac:=aB w' ai;cases nx with
  | value v=>exact⟨_,_,w',seen P b.fn ((execOp (A9 T) o).events P w #[])++ #[],by simp [stepG.apply,U,Z,GStep.after,G,am,CP],K,k1,ab,by simpa using ac⟩
  | skip=>exact⟨_,_,w',seen P b.fn ((execOp (A9 T) o).events P w #[])++ #[],by simp [stepG.apply,U,Z,GStep.after,G,am,CP],K,k1,ab,by simpa using ac⟩
  | enter g args=>exact⟨_,_,w',seen P b.fn ((execOp (A9 T) o).events P w #[])++ #[],by simp [stepG.apply,U,Z,GStep.after,G,CP,D8],K,k1,ab,by simpa using ac⟩
  | round l g aG as aH=>exact⟨_,_,w',seen P b.fn ((execOp (A9 T) o).events P w #[])++ #[],by simp [stepG.apply,U,Z,GStep.after,G,CP,D8],K,k1,ab,by simpa using ac⟩
  | defer d=>
   have aE:=Dm (b:=b) (ds:=d::ds) (k:=k) T ops i rest undef o W;exact⟨_,_,w',seen P b.fn ((execOp (A9 T) o).events P w #[])++ #[],by
    rw [← aE];simp [stepG.apply,U,Z,GStep.after,G,CP,D8];rfl,K,k1,ab,by simpa using ac⟩
  | _=>exact K.elim
 | halt x w'=>rw [U] at K;exact K.elim
end
end Pal
namespace Pal
open Go Go.Conc
def MX(m:Nat)(listed:Array Bool):Bool:=(List.range m).all fun i=>listed.getD i false
def AW(listed:Array Bool)(i:Nat):Array Bool:=listed.setIfInBounds i true
section
variable {P:Program}(J:Judge P)(Q:Goroutine→St→Prop)(b:Frame)(ds:List Deferred)(ops:Array Oper)(k:List Item)(cs:List Frame)(m:Nat)(D:Nat→Bool)
def JA:Nat→Array Bool→Array Value→St→Prop
 | 0,listed,T,s=>Region.ready .any ops listed= []∧J.ok Q (G (fr b T ds (.inRegion ops []::k)) cs) s
 | fuel+1,listed,T,s=>
  (MX m listed=true∧∀t,J.ok Q (G (fr b T ds (.inRegion ops (Region.linearise.go .any ops (fuel+1) t listed [])::k)) cs) s)∨
  (Region.ready .any ops listed≠ []∧s.q=false∧∀i∈Region.ready .any ops listed,∀o,ops[i]? =some o→(∀c,o.op≠ .defer c)∧
   (Region.wanted o (yielded ops T)=false→JA fuel (AW listed i) (BB T o.dst undef) s)∧
   (Region.wanted o (yielded ops T)=true→lp P (execOp (A9 T) o) (A8 D s) (fun nx s'=>match nx with
    | .value v=>JA fuel (AW listed i) (BB T o.dst v) (Bx D s s')
    | .skip=>JA fuel (AW listed i) (BB T o.dst undef) (Bx D s s')
    | .enter f args=>∃R,Ch J f args (Bx D s s') R∧∀v A,R v A→A.q=false∧(∀x o,(A8 D s).E x=some o→(A8 D A).E x=some o)∧JA fuel (AW listed i) (BB T o.dst v) A
    | _=>False) (fun _ _=>False)))
variable {J Q b ds ops k cs m D}
theorem JA.sound(W:b.kind≠ .early):∀(fuel t:Nat) (listed:Array Bool) (T:Array Value) (s:St),JA J Q b ds ops k cs m D fuel listed T s→
  J.ok Q (G (fr b T ds (.inRegion ops (Region.linearise.go .any ops fuel t listed [])::k)) cs) s:=by
 intro fuel
 induction fuel with
 | zero=>intro t listed T s h;simpa [Region.linearise.go] using h.2
 | succ fuel A=>
  intro t listed T s h;rcases h with⟨_,h⟩ | ⟨Z,aa,h⟩
  ·exact h t
  ·obtain⟨i,hi⟩:∃i,(Region.ready .any ops listed)[t % (Region.ready .any ops listed).length]? =some i:=by
    have:0<(Region.ready .any ops listed).length:=List.length_pos_iff.2 Z;exact⟨_,List.getElem?_eq_getElem (Nat.mod_lt _ this)⟩
   have U:=List.mem_of_getElem? hi;have hgo:Region.linearise.go .any ops (fuel+1) t listed []=i::Region.linearise.go .any ops fuel (t / (Region.ready .any ops listed).length) (AW listed i) []:=by
    simp only [Region.linearise.go];change (match(Region.ready .any ops listed)[t % (Region.ready .any ops listed).length]? with
     | some i=>Region.linearise.go .any ops fuel (t / (Region.ready .any ops listed).length) (listed.setIfInBounds i true) [i]
     | none=> [].reverse)=_
    rw [hi];simp only;rw [linearise_go_acc];rfl
   rw [hgo];obtain⟨_,o,K,_⟩:=mem_ready.1 U;obtain⟨ab,ac,ae⟩:=h i U o K;cases hw:Region.wanted o (yielded ops T) with
   | false=>exact Judge.unwanted K hw (A _ _ _ _ (ac hw))
   | true=>
    refine Judge.LR D K hw W ab aa (BV _ (ae hw) ?_ (fun _ _ h=>h));intro nx s' O;cases nx with
    | value v=>exact A _ _ _ _ O
    | skip=>exact A _ _ _ _ O
    | enter f args=>
     obtain⟨R,ag,ah⟩:=O;refine ag Q _ cs fun v ai aj=>?_;rw [Dm _ _ _ _ _ _ K];exact A _ _ _ _ (ah v ai aj).2.2
    | _=>exact O.elim
theorem PM{T:Array Value}{d:Option Tmp}{v:Value}{x:Operand}(h:∀t,d=some t→x≠ .tmp t):A9 (BB T d v) x=A9 T x:=by
 cases d with
 | none=>rfl
 | some t=>
  cases x with
  | tmp u=>
   have A:t≠u:=fun e=>h t rfl (e▸rfl);simp only [BB,A9,Array.getD_eq_getD_getElem?,Array.getElem?_setIfInBounds_ne A]
  | _=>rfl
theorem D6{T:Array Value}{d:Option Tmp}{v:Value}{o:Oper}(hs:∀cs b,o.op≠ .select cs b)(h:∀t,d=some t→t ∉ o.looksAt ops):
  execOp (A9 (BB T d v)) o=execOp (A9 T) o∧Region.wanted o (yielded ops (BB T d v))=Region.wanted o (yielded ops T):=by
 refine⟨execOp_congr o hs fun x A=>PM fun t ht K=>h t ht ?_,?_⟩
 ·subst K;exact List.mem_append_left _ (List.mem_filterMap.2 ⟨.tmp t,by simpa using A,rfl⟩)
 ·have:=wanted_put (ops:=ops) o (⟨T,[]⟩:Act) d v h
  rwa [act_put'] at this
 where
  act_put' {T : Array Value} {d : Option Tmp} {v : Value} : (⟨T, []⟩ : Act).put d v = ⟨BB T d v, []⟩ := by cases d <;> rfl
theorem EL{T:Array Value}{d e:Option Tmp}{v u:Value}(h:∀t,d=some t→e≠some t):BB (BB T d v) e u=BB (BB T e u) d v:=by
 cases d with
 | none=>rfl
 | some t=>
  cases e with
  | none=>rfl
  | some A=>
   have K:t≠A:=fun q=>h t rfl (q▸rfl);simp [BB,Array.setIfInBounds_comm _ _ K]
theorem Kc{D:Nat→Bool}{s s':St}(A:s'.E=(A8 D s).E):(A8 D (Bx D s s')).E=(A8 D s).E:=by
 funext x;by_cases h:D x
 ·simp [A8,Bx,h,St.get]
 ·have:=congrFun A x;simp [A8,h] at this;simp [A8,Bx,h,this]
def ET(ops:Array Oper)(listed:Array Bool)(i:Nat)(oi:Oper):Bool:=
 (List.range ops.size).all fun j=>j==i || listed.getD j true || match ops[j]? with
  | some A=>(A.after.any fun e=>Region.binds .any e&&e.on==i) || oi.apart ops A
  | none=>true
def waits(ops:Array Oper):Nat→Nat→Nat→Bool
 | 0,_,_=>false
 | f+1,j,i=>match ops[j]? with
  | some A=>A.after.any fun e=>Region.binds .any e&&(e.on==i || waits ops f e.on i)
  | none=>true
def Dc(ops:Array Oper)(m:Nat):Bool:=
 (List.range ops.size).all fun j=>decide (j<m) || (List.range m).all fun i=>waits ops ops.size j i
def D9(ops:Array Oper)(listed:Array Bool):Bool:=
 (List.range ops.size).all fun j=> !listed.getD j false || match ops[j]? with
  | some A=>A.after.all fun e=> !Region.binds .any e || listed.getD e.on false
  | none=>true
theorem ID{listed:Array Bool}(h:D9 ops listed=true){j:Nat}{A:Oper}(K:ops[j]? =some A)(O:listed.getD j false=true):∀e∈A.after,Region.binds .any e=true→listed.getD e.on false=true:=by
 intro e he hb;have:=List.all_eq_true.1 h j (List.mem_range.2 (Array.getElem?_eq_some_iff.1 K).1);rw [O,K] at this;simp only [Bool.not_true,Bool.false_or] at this;have:=Array.all_eq_true'.1 this e he;rw [hb] at this;simpa using this
theorem J8{listed:Array Bool}(W:D9 ops listed=true){i:Nat}:∀(f j:Nat) (K:Oper),ops[j]? =some K→(∀e∈K.after,Region.binds .any e=true→listed.getD e.on false=true)→waits ops f j i=true→listed.getD i false=true∨∃x,ops[x]? =none∧listed.getD x false=true:=by
 intro f
 induction f with
 | zero=>intro j K _ _ h;cases h
 | succ f Z=>
  intro j K aa ab h;simp only [waits,aa] at h;obtain⟨e,he,A⟩:=Array.any_eq_true'.1 h;simp only [Bool.and_eq_true,Bool.or_eq_true,beq_iff_eq] at A;obtain⟨hb,A⟩:=A;have O:=ab e he hb;rcases A with rfl | A
  ·exact .inl O
  ·cases U:ops[e.on]? with
   | none=>exact .inr ⟨_,U,O⟩
   | some o=>exact Z e.on o U (fun ac ae ag=>ID W U O ac ae ag) A
theorem JA.take{i:Nat}{oi:Oper}{w:Bool}{v:Value}(hi:ops[i]? =some oi)(aS:i<m)(aT:Dc ops m=true)(aU:Region.noSelect ops=true)(aV:∀c,oi.op≠ .defer c):
  ∀(fuel:Nat) (listed:Array Bool) (T:Array Value) (s:St),ET ops listed i oi=true→D9 ops listed=true→listed.size=ops.size→i∈Region.ready .any ops listed→s.q=false→Region.wanted oi (yielded ops T)=w→
   (w=true→∀s',s'.q=false→(∀x o,(A8 D s).E x=some o→s'.E x=some o)→Yl P oi (A9 T) s' v)→
   JA J Q b ds ops k cs m D fuel (AW listed i) (BB T oi.dst (if w then v else undef)) s→JA J Q b ds ops k cs m D (fuel+1) listed T s:=by
 have ag:∀(j:Nat) (W:Oper),ops[j]? =some W→∀cs b,W.op≠Op.select cs b:=fun j W h cs b=>Region.noSelect_spec aU j W cs b h;intro fuel
 induction fuel with
 | zero=>?_
 | succ fuel al=>?_
 all_goals
  intro listed T s aG aH ah am an hw ai h;refine .inr ⟨fun e=>(by rw [e] at am;cases am),an,fun j aI W K=>?_⟩;by_cases ae:j=i
  ·subst ae;obtain rfl:W=oi:=by rw [hi] at K;exact(Option.some.inj K).symm
   refine⟨aV,fun ay=>?_,fun az=>?_⟩
   ·rw [ay] at hw;subst hw;exact h
   ·rw [az] at hw;subst hw;refine BV _ (ai rfl (A8 D s) an fun _ _ h=>h).out ?_ (fun _ _ h=>h);rintro nx s' ⟨rfl,rfl⟩;rw [GM];exact h
  ·
   have aJ:j∈Region.ready .any ops (AW listed i):=ready_mono aI ae;obtain⟨Z,O,aK,aA⟩:=mem_ready.1 aI;obtain rfl:O=W:=by rw [K] at aK;exact(Option.some.inj aK).symm
   have aB:=(mem_ready.1 am).1;have aW:(O.after.any fun e=>Region.binds .any e&&e.on==i)=false:=by
    rw [Array.any_eq_false];intro e he A;simp only [Bool.and_eq_true,beq_iff_eq] at A;have:=aA _ (Array.getElem_mem he) A.1;rw [A.2] at this;have U:listed.getD i true=listed.getD i false∨listed.size≤i:=by
     rcases Nat.lt_or_ge i listed.size with q | q
     ·left;simp [Array.getD_eq_getD_getElem?,q]
     ·exact .inr q
    rcases U with U | U
    ·rw [aB,this] at U;cases U
    ·rw [Array.getD_eq_getD_getElem?,Array.getElem?_eq_none U] at this;simp at this
   have aX:oi.apart ops O=true:=by
    have aj:j<ops.size:=(Array.getElem?_eq_some_iff.1 K).1;have:=List.all_eq_true.1 aG j (List.mem_range.2 aj);simp only [Bool.or_eq_true,beq_iff_eq] at this;rcases this with(q | q) | q
    ·exact absurd q ae
    ·rw [Z] at q;cases q
    ·rw [K] at q;simp only [Bool.or_eq_true] at q;rw [aW] at q;exact q.resolve_left (by simp)
   obtain⟨aY,ao,ap⟩:=Oper.apart_spec aX;obtain⟨p1,p2⟩:=D6 (ops:=ops) (T:=T) (v:=if w then v else undef) (ag j O K) aY
   first
    | exact absurd aJ (by rw [h.1];simp)
    | (
     rcases h with⟨aZ,_⟩ | ⟨bc,_,h⟩
     ·
      exfalso
      have a0:¬j<m:=by
       intro aj
       have:=List.all_eq_true.1 aZ j (List.mem_range.2 aj)
       have aa:(AW listed i).getD j false=listed.getD j false:=getD_set_ne false (Ne.symm ae)
       rw [aa] at this
       have U:listed.getD j true=true:=by
        rcases Nat.lt_or_ge j listed.size with q | q
        ·simp [Array.getD_eq_getD_getElem?,q] at this ⊢;exact this
        ·simp [Array.getD_eq_getD_getElem?,Array.getElem?_eq_none q] at this
       rw [Z] at U;cases U
      have aj:j<ops.size:=(Array.getElem?_eq_some_iff.1 K).1
      have:=List.all_eq_true.1 aT j (List.mem_range.2 aj)
      simp only [Bool.or_eq_true,decide_eq_true_eq] at this
      have:=List.all_eq_true.1 (this.resolve_left a0) i (List.mem_range.2 aS)
      rcases J8 aH _ j O K (fun e he hb=>aA e he hb) this with q | ⟨x,q1,q2⟩
      ·have a1:i<listed.size:=by rw [ah];exact(Array.getElem?_eq_some_iff.1 hi).1
       simp [Array.getD_eq_getD_getElem?,a1] at q aB
       rw [aB] at q;cases q
      ·have:¬x<listed.size:=by rw [ah];intro A;simp [A] at q1
       simp [Array.getD_eq_getD_getElem?,this] at q2
     ·obtain⟨a2,ay,az⟩:=h j aJ O K
      have aq:AW (AW listed i) j=AW (AW listed j) i:=by
       unfold AW;exact Array.setIfInBounds_comm _ _ (Ne.symm ae)
      have ar:i∈Region.ready .any ops (AW listed j):=ready_mono am (Ne.symm ae)
      have au:ET ops (AW listed j) i oi=true:=by
       refine List.all_eq_true.2 fun x A=>?_
       have:=List.all_eq_true.1 aG x A
       simp only [Bool.or_eq_true,beq_iff_eq] at this ⊢
       rcases this with(q | q) | q
       ·exact .inl (.inl q)
       ·left;right
        by_cases e:j=x
        ·subst e;rw [Z] at q;cases q
        ·rw [AW,getD_set_ne true e];exact q
       ·exact .inr q
      have av:(AW listed j).size=ops.size:=by unfold AW;simpa using ah
      have aw:D9 ops (AW listed j)=true:=by
       refine List.all_eq_true.2 fun x A=>?_
       cases aC:ops[x]? with
       | none=>simp
       | some a3=>
        simp only [Bool.or_eq_true,Bool.not_eq_true']
        by_cases e:j=x
        ·subst e
         obtain rfl:a3=O:=by rw [K] at aC;exact(Option.some.inj aC).symm
         right
         refine Array.all_eq_true'.2 fun e he=>?_
         cases hb:Region.binds .any e with
         | false=>simp
         | true=>
          have:=aA e he hb
          by_cases aa:j=e.on
          ·rw [← aa] at this
           have aD:j<listed.size:=by rw [ah];exact(Array.getElem?_eq_some_iff.1 K).1
           simp [Array.getD_eq_getD_getElem?,aD] at this Z
           rw [Z] at this;cases this
          ·rw [AW,getD_set_ne false aa];simpa using this
        ·cases aL:(AW listed j).getD x false with
         | false=>exact .inl rfl
         | true=>
          right
          have a4:listed.getD x false=true:=by rw [AW,getD_set_ne false e] at aL;exact aL
          refine Array.all_eq_true'.2 fun aE he=>?_
          cases hb:Region.binds .any aE with
          | false=>simp
          | true=>
           have:=ID aH aC a4 aE he hb
           by_cases aa:j=aE.on
           ·rw [← aa] at this
            have aD:j<listed.size:=by rw [ah];exact(Array.getElem?_eq_some_iff.1 K).1
            simp [Array.getD_eq_getD_getElem?,aD] at this Z
            rw [Z] at this;cases this
           ·rw [AW,getD_set_ne false aa];simpa using this
      refine⟨a2,fun a5=>?_,fun a6=>?_⟩
      ·have:=ay (by rw [p2];exact a5)
       rw [aq,EL ao] at this
       obtain⟨q1,q2⟩:=D6 (ops:=ops) (T:=T) (d:=O.dst) (v:=undef) (o:=oi) (ag i oi hi) ap
       exact al _ _ _ au aw av ar an (by rw [q2];exact hw) (fun ab s' a7 aF=>by unfold Yl;rw [q1];exact(ai ab s' a7 aF).out) this
      ·have aM:=Io _ (az (by rw [p2];exact a6))
       rw [p1] at aM
       refine BV _ aM ?_ (fun _ _ h=>h)
       rintro nx s' ⟨A,aF,a8⟩
       have aN:=Kc (D:=D) aF
       have aO:(Bx D s s').q=false:=by show s'.q=false;rw [a8];exact an
       cases nx with
       | value u=>
        simp only at A ⊢
        rw [aq,EL ao] at A
        obtain⟨q1,q2⟩:=D6 (ops:=ops) (T:=T) (d:=O.dst) (v:=u) (o:=oi) (ag i oi hi) ap
        exact al _ _ _ au aw av ar aO (by rw [q2];exact hw) (fun ab s2 ak ac=>by unfold Yl;rw [q1];exact(ai ab s2 ak (by rw [aN] at ac;exact ac)).out) A
       | skip=>
        simp only at A ⊢
        rw [aq,EL ao] at A
        obtain⟨q1,q2⟩:=D6 (ops:=ops) (T:=T) (d:=O.dst) (v:=undef) (o:=oi) (ag i oi hi) ap
        exact al _ _ _ au aw av ar aO (by rw [q2];exact hw) (fun ab s2 ak ac=>by unfold Yl;rw [q1];exact(ai ab s2 ak (by rw [aN] at ac;exact ac)).out) A
       | enter f args=>
        obtain⟨R,a9,ba⟩:=A
        refine⟨R,a9,fun u bb hu=>?_⟩
        obtain⟨aP,aQ,aR⟩:=ba u bb hu
        refine⟨aP,aQ,?_⟩
        rw [aq,EL ao] at aR
        obtain⟨q1,q2⟩:=D6 (ops:=ops) (T:=T) (d:=O.dst) (v:=u) (o:=oi) (ag i oi hi) ap
        exact al _ _ _ au aw av ar aP (by rw [q2];exact hw) (fun ab s2 ak ac=>by unfold Yl;rw [q1];exact(ai ab s2 ak (fun x o A=>ac x o (aQ x o A))).out) aR
       | _=>exact A.elim)
end
end Pal
namespace Pal
open Go Go.Conc
section
variable {P:Program}(J:Judge P)(Q:Goroutine→St→Prop)(b:Frame)(n:Nat)(ds:List Deferred)(ops:Array Oper)(k:List Item)(cs:List Frame)(m:Nat)(D:Nat→Bool)
def Av(fuel:Nat)(listed:Array Bool)(L:Env)(s:St):Prop:=∀T,Has n L T→JA J Q b ds ops k cs m D fuel listed T s
end
def CG:Nat→Bool:=fun _=>false
section
variable {P:Program}{J:Judge P}{Q:Goroutine→St→Prop}{b:Frame}{n:Nat}{ds:List Deferred}{ops:Array Oper}{k:List Item}{cs:List Frame}{m fuel:Nat}{D:Nat→Bool}{listed:Array Bool}{L:Env}{s:St}
theorem JL.MT(m:Nat)(D:Nat→Bool){id:Nat}(A:s.q=false)(hm:P.follows .mixedOrders=true)(K:(b.kind != .early)=true)(h:Av J Q b n ds ops k cs m D ops.size (Array.replicate ops.size false) L s):JL J Q b n L ds (.code (.region id ops true)::k) cs s:=
 JL.draw A hm fun t T O=>JA.sound (by simpa using K) ops.size t _ T s (h T O)
theorem Av.Ry{i:Nat}{oi:Oper}{v:Value}(hi:ops[i]? =some oi)(O:decide (i<m)=true)(U:Dc ops m=true)(W:Region.noSelect ops=true)(K:(!B7 oi.op)=true)(Z:ET ops listed i oi=true)(aa:D9 ops listed=true)(ab:(listed.size==ops.size)=true)(ac:(Region.ready .any ops listed).contains i=true)(ae:s.q=false)
  (hw:AS L ops oi=some true) (ag:A2 n oi.dst=true) (ah:∀ρ,Cw L ρ→∀s',s'.q=false→(∀x o,(A8 D s).E x=some o→s'.E x=some o)→Yl P oi ρ s' v)
  (h:Av J Q b n ds ops k cs m D fuel (AW listed i) (AH L oi.dst v) s):Av J Q b n ds ops k cs m D (fuel+1) listed L s:=fun T A=>by
 refine JA.take (w:=true) (v:=v) hi (by simpa using O) U W (fun c ai=>by rw [ai] at K;simp [B7] at K) fuel listed T s Z aa (by simpa using ab) (by simpa using ac) ae (BM A hw) (fun _ s' aj ak=>ah _ A.Dr s' aj ak) ?_
 exact h _ (A.put ag v)
theorem Av.RM{i:Nat}{oi:Oper}(hi:ops[i]? =some oi)(O:decide (i<m)=true)(U:Dc ops m=true)(W:Region.noSelect ops=true)(A:(!B7 oi.op)=true)(Z:ET ops listed i oi=true)(aa:D9 ops listed=true)(ab:(listed.size==ops.size)=true)(ac:(Region.ready .any ops listed).contains i=true)(ae:s.q=false)
  (hw:AS L ops oi=some false) (ag:A2 n oi.dst=true)
  (h:Av J Q b n ds ops k cs m D fuel (AW listed i) (AH L oi.dst undef) s):Av J Q b n ds ops k cs m D (fuel+1) listed L s:=fun T K=>by
 refine JA.take (w:=false) (v:=undef) hi (by simpa using O) U W (fun c ah=>by rw [ah] at A;simp [B7] at A) fuel listed T s Z aa (by simpa using ab) (by simpa using ac) ae (BM K hw) (fun e=>by cases e) ?_
 exact h _ (K.put ag undef)
theorem Av.each(aa:s.q=false)(ab:Region.ready .any ops listed≠ [])
  (h:∀i∈Region.ready .any ops listed,∀o,ops[i]? =some o→(!B7 o.op)=true∧A2 n o.dst=true∧∃w,AS L ops o=some w∧
   (w=false→Av J Q b n ds ops k cs m D fuel (AW listed i) (AH L o.dst undef) s)∧
   (w=true→∀ρ,Cw L ρ→lp P (execOp ρ o) (A8 D s) (fun nx s'=>match nx with
    | .value v=>Av J Q b n ds ops k cs m D fuel (AW listed i) (AH L o.dst v) (Bx D s s')
    | .skip=>Av J Q b n ds ops k cs m D fuel (AW listed i) (AH L o.dst undef) (Bx D s s')
    | .enter f args=>∃R,Ch J f args (Bx D s s') R∧∀v A,R v A→A.q=false∧(∀x o,(A8 D s).E x=some o→(A8 D A).E x=some o)∧Av J Q b n ds ops k cs m D fuel (AW listed i) (AH L o.dst v) A
    | _=>False) (fun _ _=>False))):
  Av J Q b n ds ops k cs m D (fuel+1) listed L s:=fun T K=>by
 refine .inr ⟨ab,aa,fun i hi o ac=>?_⟩
 obtain⟨Z,O,w,hw,ae,ag⟩:=h i hi o ac
 have U:=BM K hw
 refine⟨fun c ah=>by rw [ah] at Z;simp [B7] at Z,fun e=>?_,fun e=>?_⟩
 ·rw [e] at U
  exact ae U.symm _ (K.put O undef)
 ·rw [e] at U;refine BV _ (ag U.symm _ K.Dr) ?_ (fun _ _ h=>h);intro nx s' W;cases nx with
  | value v=>exact W _ (K.put O v)
  | skip=>exact W _ (K.put O undef)
  | enter f args=>
   obtain⟨R,ai,aj⟩:=W;exact⟨R,ai,fun v A ak=>let ⟨a,b,c⟩:=aj v A ak;⟨a,b,c _ (K.put O v)⟩⟩
  | _=>exact W.elim
theorem Av.one{i:Nat}{o:Oper}(Z:s.q=false)(U:Region.ready .any ops listed= [i])(hi:ops[i]? =some o)(K:(!B7 o.op&&A2 n o.dst)=true)(hw:AS L ops o=some true)
  (h:∀ρ,Cw L ρ→lp P (execOp ρ o) (A8 D s) (fun nx s'=>match nx with
    | .value v=>Av J Q b n ds ops k cs m D fuel (AW listed i) (AH L o.dst v) (Bx D s s')
    | .skip=>Av J Q b n ds ops k cs m D fuel (AW listed i) (AH L o.dst undef) (Bx D s s')
    | .enter f args=>∃R,Ch J f args (Bx D s s') R∧∀v A,R v A→A.q=false∧(∀x o,(A8 D s).E x=some o→(A8 D A).E x=some o)∧Av J Q b n ds ops k cs m D fuel (AW listed i) (AH L o.dst v) A
    | _=>False) (fun _ _=>False)):
  Av J Q b n ds ops k cs m D (fuel+1) listed L s:=by
 simp only [Bool.and_eq_true] at K;refine Av.each Z (by rw [U];simp) fun j O o' W=>?_;rw [U] at O;simp at O;subst O;obtain rfl:o'=o:=by rw [hi] at W;exact(Option.some.inj W).symm
 exact⟨K.1,K.2,true,hw,fun e=>(by cases e),fun _=>h⟩
theorem Av.call{i:Nat}{d:Option Tmp}{f:FuncId}{args:Array Operand}{ats:Array TypeId}{ty:TypeId}{p:String}{af:Array Edge}{g:Option (Nat×Bool)}{vs:List Value}{R:Value→St→Prop}(O:s.q=false)(U:Region.ready .any ops listed= [i])
  (W:ops[i]? =some ⟨d,.call ⟨.value (.func f),args,ats⟩,ty,p,af,g⟩) (Z:A2 n d=true) (hw:AS L ops ⟨d,.call ⟨.value (.func f),args,ats⟩,ty,p,af,g⟩=some true) (hb:Cd P f=true) (aa:evs L args.toList=some vs)
  (ab:Ch J f vs.toArray s R) (h:∀v A,R v A→A.q=false∧(∀x o,(A8 D s).E x=some o→(A8 D A).E x=some o)∧Av J Q b n ds ops k cs m D fuel (AW listed i) (AH L d v) A):
  Av J Q b n ds ops k cs m D (fuel+1) listed L s:=by
 refine Av.one O U W (by simp [B7,Z]) hw fun ρ K=>?_;have ac:args.map ρ=vs.toArray:=by
  rw [← Dz K aa];apply Array.ext';simp
 have ae:ρ (.func f)= .func (.func f) #[] #[]:=K _ _ rfl;simp only [execOp,resolve,bind,Sem.bind,Deferred.ofValue,ae,pure,invoke];have e: #[]++args.map ρ++ #[]=vs.toArray:=by rw [ac];simp
 rw [e];refine FG hb ?_;rw [GM];exact⟨R,ab,h⟩
theorem Av.leaf{tail:List Nat}(A:MX m listed=true)(hgo:∀t,Region.linearise.go .any ops (fuel+1) t listed []=tail)(h:JL J Q b n L ds (.inRegion ops tail::k) cs s):Av J Q b n ds ops k cs m D (fuel+1) listed L s:=fun T K=>
 .inl ⟨A,fun t=>by rw [hgo t];exact h T K⟩
theorem Av.fin(A:Region.ready .any ops listed= [])(h:JL J Q b n L ds k cs s):Av J Q b n ds ops k cs m D 0 listed L s:=fun T K=>⟨A,JL.done h T K⟩
theorem A3{listed:Array Bool}{i:Nat}{tail:List Nat}{fuel:Nat}(A:Region.ready .any ops listed= [i])(h:∀t,Region.linearise.go .any ops fuel t (AW listed i) []=tail)(t:Nat):Region.linearise.go .any ops (fuel+1) t listed []=i::tail:=by
 simp only [Region.linearise.go];change (match(Region.ready .any ops listed)[t % (Region.ready .any ops listed).length]? with
  | some i=>Region.linearise.go .any ops fuel (t / (Region.ready .any ops listed).length) (listed.setIfInBounds i true) [i]
  | none=> [].reverse)=_
 rw [A];simp only [List.length_singleton,Nat.mod_one,List.getElem?_cons_zero];rw [linearise_go_acc];have:=h (t / 1);unfold AW at this;rw [this];rfl
theorem BE{listed:Array Bool}(t:Nat):Region.linearise.go .any ops 0 t listed []= []:=rfl
theorem JL.RN{i:Nat}{rest:List Nat}{d:Option Tmp}{f:FuncId}{args:Array Operand}{ats:Array TypeId}{ty:TypeId}{p:String}{af:Array Edge}{g:Option (Nat×Bool)}{vs:List Value}{R:Value→St→Prop}
  (O:ops[i]? =some ⟨d,.call ⟨.value (.func f),args,ats⟩,ty,p,af,g⟩) (hw:AS L ops ⟨d,.call ⟨.value (.func f),args,ats⟩,ty,p,af,g⟩=some true) (A:((b.kind != .early)&&A2 n d)=true) (hb:Cd P f=true)
  (U:evs L args.toList=some vs) (W:Ch J f vs.toArray s R) (Z:∀v s',R v s'→JL J Q b n (AH L d v) ds (.inRegion ops rest::k) cs s'):
  JL J Q b n L ds (.inRegion ops (i::rest)::k) cs s:=fun T K=>by
 simp only [Bool.and_eq_true] at A
 have aa:args.map (A9 T)=vs.toArray:=by
  rw [← Dz K.Dr U];apply Array.ext';simp
 refine Judge.oper O (BM K hw) (by simpa using A.1) (.inr fun c ab=>by cases ab) ?_;have ac:lp P (execOp (A9 T) ⟨d,.call ⟨.value (.func f),args,ats⟩,ty,p,af,g⟩) s (upon J Q b T ds ops i rest k cs d) (Ha J Q b T ds ops i rest k cs):=by
  simp only [execOp,resolve,bind,Sem.bind,Deferred.ofValue,A9,pure,invoke];have e: #[]++args.map (A9 T)++ #[]=vs.toArray:=by rw [aa];simp
  rw [e];refine FG hb ?_;refine W Q _ cs fun v s' ae=>?_;rw [Dm (o:=⟨d,.call ⟨.value (.func f),args,ats⟩,ty,p,af,g⟩) _ _ _ _ _ O];exact Z v s' ae _ (K.put A.2 v)
 exact ac
theorem Ch.enter{f:FuncId}{fn:Func}{c:Code}{vs:List Value}{R:Value→St→Prop}(U:P.funcs[f]? =some fn)(hb:fn.body=some c)(aa:vs.length≤fn.ntmps)
  (h:∀(Q:Goroutine→St→Prop) (A:Frame) (cs:List Frame),(∀v s',R v s'→J.ok Q (G (A.finish v) cs) s')→JL J Q (base f) fn.ntmps (Ds 0 vs) [] [.code c] (A::cs) s):Ch J f vs.toArray s R:=fun Q A cs W=>by
 have he:Frame.enter P f vs.toArray .normal=fr (base f) (vs.toArray++Array.replicate (fn.ntmps - vs.length) undef) [] [.code c]:=by
  simp [Frame.enter,fr,U,hb,base];rfl
 rw [he];refine h Q A cs W _ ⟨by simp;omega,fun t v ht=>?_⟩;obtain⟨_,K⟩:=F9 ht;have Z:t<vs.length:=by
  rcases Nat.lt_or_ge t vs.length with O | O
  ·exact O
  ·simp at K;have:=(List.getElem?_eq_some_iff.1 K).1;omega
 rw [Array.getD_eq_getD_getElem?,Array.getElem?_append_left (by simpa using Z)];simp at K;simp [K]
end
end Pal
namespace Pal
open Go Go.Conc
section
variable {P:Program}{J:Judge P}{Q:Goroutine→St→Prop}{b:Frame}{n:Nat}{ds:List Deferred}{ops:Array Oper}{k:List Item}{cs:List Frame}{L:Env}{s:St}{E E' H:LH}{B B0:List (Nat×Obj)}
theorem JL.EZ(K:s.q=false)(h:(∃w,Fits s w)→JL J Q b n L ds k cs s):JL J Q b n L ds k cs s:=fun T O=>by
 by_cases A:∃w,Fits s w
 ·exact h A T O
 ·exact J.step ⟨rfl,fun w f=>absurd ⟨w,f⟩ A,fun e=>by subst e;cases K⟩
theorem Kn{x:Nat}:∀{B:List (Nat×Obj)},(∃p∈B,p.1=x)→AT B H x≠none
 | [],⟨p,A,_⟩=>by cases A
 | (c,o)::B,⟨p,A,e⟩=>by
  simp only [AT]
  split
  ·simp
  ·rename_i K;rcases List.mem_cons.1 A with q | q
   ·subst q;exact absurd e.symm K
   ·exact Kn ⟨p,q,e⟩
theorem Nd.grow(K:Nd E H B)(O:∀x,E' x≠none→AT B H x=none):Nd E' H B:=by
 have key:∀{C:List (Nat×Obj)},Nd E H C→(∀p∈C,p∈B)→Nd E' H C:=by
  intro C
  induction C with
  | nil=>intro _ _;trivial
  | cons p C U=>
   obtain⟨c,o⟩:=p;intro hC hs;refine⟨?_,hC.2.1,hC.2.2.1,U hC.2.2.2 fun p A=>hs p (List.mem_cons_of_mem _ A)⟩;cases W:E' c with
   | none=>rfl
   | some u=>exact absurd (O c (by rw [W];simp)) (Kn ⟨(c,o),hs _ (by simp),rfl⟩)
 exact key K fun p A=>A
def JP(J:Judge P)(f:FuncId)(args:List Value)(E:LH)(R:Value→LH→Prop):Prop:=
 ∀H,Ch J f args.toArray (mk E H []) (fun v s'=>∃E',Le E E'∧R v E'∧s'=mk E' H [])
theorem JP.mono{f:FuncId}{vs:List Value}{R A:Value→LH→Prop}(h:JP J f vs E R)(O:∀v E',Le E E'→R v E'→A v E'):JP J f vs E A:=fun H=>
 (h H).mono fun v s' ⟨E',K,U,W⟩=>⟨E',K,O v E' K U,W⟩
def Hm(E:LH)(K:Nat)(v:Value)(n:Nat)(xs:List Value):Prop:=
 ∃a c,v= .slice a n c∧n≤c∧xs.length=n*K∧(n=0∨∃A off f e fr,a=some ⟨A,off,none⟩∧E A=some (.cells f e fr)∧∀j w,xs[j]? =some w→f[off+j]? =some w)
theorem Hm.nil{A:Nat}:Hm E A (.slice none 0 0) 0 []:=⟨none,0,rfl,Nat.le_refl _,by simp,.inl rfl⟩
theorem Hm.get{A m i:Nat}{v:Value}{xs:List Value}(h:Hm E A v m xs)(hi:i<m):
  ∃K off c,v= .slice (some ⟨K,off,none⟩) m c∧∀s:St,(∀x o,E x=some o→s.E x=some o)→∀j w,xs[i*A+j]? =some w→s.cell? ⟨K,off+i*A+j,none⟩=some w:=by
 obtain⟨a,c,U,ab,ac,O⟩:=h;rcases O with O | ⟨K,off,f,e,fr,W,Z,aa⟩
 ·omega
 ·subst W;refine⟨K,off,c,U,fun s hs j w hw=>?_⟩;have:=aa _ w hw;unfold St.cell? St.get;rw [hs _ _ Z];show f[off+i*A+j]? =some w;rw [Nat.add_assoc];exact this
def GS(e:TypeId)(A:Nat)(a:Option Addr)(l c:Nat)(blk:List (Nat×Obj))(xs:List Value):Prop:=
 (a=none∧l=0∧c=0∧blk= []∧xs= [])∨∃K f,a=some ⟨K,0,none⟩∧blk= [(K,.cells f e (0,0))]∧f.size=c*A∧l≤c∧xs=f.toList.take (l*A)
theorem GS.nil{e:TypeId}{A:Nat}:GS e A none 0 0 [] []:= .inl ⟨rfl,rfl,rfl,rfl,rfl⟩
theorem GS.length{e:TypeId}{A:Nat}{a:Option Addr}{l c:Nat}{blk:List (Nat×Obj)}{xs:List Value}(h:GS e A a l c blk xs):xs.length=l*A:=by
 rcases h with⟨_,rfl,_,_,rfl⟩ | ⟨U,f,_,_,K,O,rfl⟩
 ·simp
 ·have:l*A≤c*A:=Nat.mul_le_mul_right _ O;simp [K,Nat.min_eq_left this]
theorem Nr{t e:TypeId}{v:Value}{Q:Value→St→Prop}{X:Halt→St→Prop}{z:Value}(ht:P.underlying t=some (.slice e))(O:Bf P e=some v.cells.size)(U:zeroOf P e=some z)(ac:z.cells.size=v.cells.size)(ae:0<v.cells.size)(ag:v.cells.size≤64)
  (W:Nd E H B) (k:∀r,Nd E H (B++ [(r,.cells v.cells e (0,0))])→Q (.slice (some ⟨r,0,none⟩) 1 1) (mk E H (B++ [(r,.cells v.cells e (0,0))]))):lp P (Instr.buildSlice t 1 #[(0,v)]) (mk E H B) Q X:=by
 unfold Instr.buildSlice;refine AF _ _ (BU ht ?_);refine AF _ _ (CM O ?_);rw [if_neg (by omega),if_neg (by omega)];refine AF (x:=zeroValue e) _ (Dy U ?_);have Z:Instr.fill (fun i=>some (i*v.cells.size,v.cells.size)) ((Array.range (1*v.cells.size)).map fun i=>z.cells[i % z.cells.size]!) [(0,v)]=some v.cells:=by
  simp only [Instr.fill,Array.size_map,Array.size_range,Nat.one_mul,Nat.zero_mul];rw [if_neg (by simp)];congr 1;apply Array.ext_getElem?;intro j;have key:∀(l:List Value) (st:Nat) (c:Array Value),st+l.length≤c.size→∀j,(List.foldl (fun cs (p:Value×Nat)=>cs.setIfInBounds (0+p.2) p.1) c (l.zipIdx st))[j]? =if st≤j∧j<st+l.length then l[j - st]? else c[j]? :=by
   intro l
   induction l with
   | nil=>intro st c _ j;simp;omega
   | cons x l aa=>
    intro st c ah j;simp only [List.zipIdx_cons,List.foldl_cons,List.length_cons] at*;rw [aa (st+1) _ (by simp;omega) j];simp only [Nat.zero_add];by_cases ab:j=st
    ·subst ab;rw [if_neg (by omega),if_pos (by omega)];rw [Nat.sub_self,List.getElem?_cons_zero,Array.getElem?_setIfInBounds_self_of_lt (by omega)]
    ·by_cases A:st+1≤j∧j<st+1+l.length
     ·rw [if_pos A,if_pos (by omega)];have:j - st=(j - (st+1))+1:=by omega
      rw [this];simp
     ·rw [if_neg A,if_neg (by omega),Array.getElem?_setIfInBounds_ne (by omega)]
  have:=key v.cells.toList 0 ((Array.range v.cells.size).map fun i=>z.cells[i % z.cells.size]!) (by simp) j;rw [← Array.foldl_toList,Array.toList_zipIdx,this];by_cases K:j<v.cells.size
  ·simp [K]
  ·simp [K]
 rw [Eo];simp only [Z];exact AF _ _ (Es W k)
end
end Pal
namespace Pal
open Go Go.Conc
section
variable {P:Program}{J:Judge P}{Q:Goroutine→St→Prop}{b:Frame}{n:Nat}{ds:List Deferred}{ops:Array Oper}{k:List Item}{cs:List Frame}{L:Env}{s:St}{E E' H:LH}{B B0:List (Nat×Obj)}
theorem Ht{ρ:Operand→Value}{d:Option Tmp}{x y:Operand}{ats:Array TypeId}{ty:TypeId}{p:String}{af:Array Edge}{g:Option (Nat×Bool)}:
  execOp ρ ⟨d,.call ⟨.builtin .append,#[x,y],ats⟩,ty,p,af,g⟩=(do pure (Next.value (← Builtin.append_ ats ty #[ρ x,ρ y]))):=by
 simp [execOp,resolve,invoke,builtin,bind,Sem.bind,pure]
theorem Nv{ρ:Operand→Value}{d:Option Tmp}{y:Operand}{t ty:TypeId}{p:String}{af:Array Edge}{g:Option (Nat×Bool)}:
  execOp ρ ⟨d,.buildSlice t 1 #[(0,y)],ty,p,af,g⟩=(do pure (Next.value (← Instr.buildSlice t 1 #[(0,ρ y)]))):=by
 simp [execOp]
theorem QP{L:Env}{d1:Tmp}{w:Value}:ev (AH L (some d1) w) (.tmp d1)=some w:=by
 simp [AH,ev,look]
theorem Ft{α:Type}(l r:List α)(x y:α):(l++x::r).set l.length y=l++y::r:=by simp
theorem JL.Fs{e t t1:TypeId}{U ag l c m:Nat}{a:Option Addr}{blk:List (Nat×Obj)}{xs ys:List Value}{i:Nat}{rest:List Nat}{d:Option Tmp}{x y:Operand}{ats:Array TypeId}{ty:TypeId}{p:String}{af:Array Edge}{g:Option (Nat×Bool)}{z:Value}{ax:Option Addr}{cx:Nat}{B1:List (Nat×Obj)}
  (ar:ops[i]? =some ⟨d,.call ⟨.builtin .append,#[x,y],ats⟩,ty,p,af,g⟩) (hw:AS L ops ⟨d,.call ⟨.builtin .append,#[x,y],ats⟩,ty,p,af,g⟩=some true) (au:BC b n ⟨d,.call ⟨.builtin .append,#[x,y],ats⟩,ty,p,af,g⟩=true)
  (av:ev L x=some (.slice a l c)) (aw:ev L y=some (.slice ax m cx)) (ay:ats[0]? =some t) (az:ats[1]? =some t1) (ht:P.underlying t=some (.slice e)) (aA:P.underlying t1=some (.slice e)) (aB:Bf P e=some U) (hb:CH P e=some ag) (aC:zeroOf P e=some z) (aD:z.cells.size=U)
  (aE:0<ag) (aF:ag≤64) (aO:0<m) (aG:l+m≤2 ^ 40) (aH:∀w∈ys,Bs w=true) (ah:GS e U a l c blk xs) (aI:Nd E H (B0++blk++B1)) (hs:DG (mk E H (B0++blk++B1)) (.slice ax m cx) U ys)
  (h:∀ap aa ai,GS e U ap (l+m) aa ai (xs++ys)→Nd E H (B0++ai)→JL J Q b n (AH L d (.slice ap (l+m) aa)) ds (.inRegion ops rest::k) cs (mk E H (B0++ai))):
  JL J Q b n L ds (.inRegion ops (i::rest)::k) cs (mk E H (B0++blk++B1)):=by
 refine JL.op ar hw au fun ρ aq=>?_;rw [Ht,aq x _ av,aq y _ aw];have aJ:H8 (B0++blk++B1) B0.length e U a l c xs:=by
  rcases ah with⟨K,Z,ab,aj,ac⟩ | ⟨ak,f,K,Z,ab,aj,ac⟩
  ·exact .inl ⟨K,Z,ab,ac⟩
  ·refine .inr ⟨ak,f,K,?_,ab,aj,ac⟩;subst Z;simp
 have hlen:=ah.length;refine AF _ _ (IM (pl:=B0.length) ay az aA ht aB hb aC aD aI aJ hs aH aE aG aF ?_ ?_ ?_)
 ·
  intro ak f A ae aP aQ aK al am W;rcases ah with⟨K,_⟩ | ⟨O,f0,K,Z,ab,aj,ac⟩
  ·rw [K] at ae;cases ae
  ·subst Z;have aL:O=ak:=by rw [K] at ae;simpa using ae
   subst aL;have aM:(B0++ [(O,Obj.cells f0 e (0,0))]++B1).set B0.length (O,.cells A e (0,0))=B0++ [(O,.cells A e (0,0))]++B1:=by
    rw [List.append_assoc,List.append_assoc];exact Ft _ _ _ _
   rw [aM] at W ⊢;have an:Nd E H (B0++ [(O,.cells A e (0,0))]):=Nd.left W;refine JL.drop (B0++ [(O,.cells A e (0,0))]) (fun p ao=>?_) W (h a c _ (.inr ⟨O,A,K,rfl,al,aK,am.symm⟩) an);exact List.mem_iff_getElem?.1 (List.mem_append_left _ ao)
 ·intro _ hm;omega
 ·
  intro r A aa aN al am W;have an:Nd E H (B0++ [(r,.cells A e (0,0))]):=Nd.pick W;refine JL.drop (B0++ [(r,.cells A e (0,0))]) (fun p ao=>?_) W (h (some ⟨r,0,none⟩) aa _ (.inr ⟨r,A,rfl,rfl,al,aN,am.symm⟩) an);refine List.mem_iff_getElem?.1 ?_;rcases List.mem_append.1 ao with q | q
  ·simp [q]
  ·exact List.mem_append_right _ q
 where
  Nd.left {E H : LH} {A C : List (Nat × Obj)} (h : Nd E H (A ++ C)) : Nd E H A := by
    induction A with
    | nil => trivial
    | cons p A ih =>
      obtain ⟨c, o⟩ := p
      obtain ⟨h1, h2, h3, h4⟩ := h
      exact ⟨h1, h2, fun q hq => h3 q (List.mem_append_left _ hq), ih h4⟩
  Nd.pick {E H : LH} {A C F : List (Nat × Obj)} {x : Nat × Obj} (h : Nd E H (A ++ C ++ F ++ [x])) : Nd E H (A ++ [x]) := by
    induction A with
    | nil =>
      have : ∀ (D : List (Nat × Obj)), Nd E H (D ++ [x]) → Nd E H [x] := by
        intro D
        induction D with
        | nil => exact fun h => h
        | cons p D ih => obtain ⟨c, o⟩ := p; exact fun h => ih h.2.2.2
      exact this _ h
    | cons p A ih =>
      obtain ⟨c, o⟩ := p
      obtain ⟨h1, h2, h3, h4⟩ := h
      refine ⟨h1, h2, fun q hq => h3 q ?_, ih h4⟩
      rcases List.mem_append.1 hq with hq | hq
      · simp [hq]
      · exact List.mem_append_right _ hq
theorem Oj{K r:Nat}{e:TypeId}{v:Value}{A:List (Nat×Obj)}(O:v.cells.size=K)(U:Nd E H (A++ [(r,.cells v.cells e (0,0))])):
  DG (mk E H (A++ [(r,.cells v.cells e (0,0))])) (.slice (some ⟨r,0,none⟩) 1 1) K v.cells.toList:=by
 refine⟨rfl,by simp [O],Nat.le_refl _,fun j w W=>?_⟩;simp only [Nat.zero_add];refine Lc (i:=A.length) U (c:=v.cells) (e:=e) (f:=(0,0)) (by simp) ?_;simpa using W
theorem JL.HR{e t t1 t2:TypeId}{A K l c:Nat}{a:Option Addr}{blk:List (Nat×Obj)}{xs:List Value}{i ab:Nat}{rest:List Nat}{d1:Tmp}{d:Option Tmp}{x y:Operand}{ats:Array TypeId}{ty O:TypeId}{p U:String}{af W:Array Edge}{g g':Option (Nat×Bool)}{z v:Value}
  (ak:ops[i]? =some ⟨some d1,.buildSlice t2 1 #[(0,y)],O,U,W,g'⟩) (hw:AS L ops ⟨some d1,.buildSlice t2 1 #[(0,y)],O,U,W,g'⟩=some true) (al:BC b n ⟨some d1,.buildSlice t2 1 #[(0,y)],O,U,W,g'⟩=true)
  (am:ops[ab]? =some ⟨d,.call ⟨.builtin .append,#[x,.tmp d1],ats⟩,ty,p,af,g⟩) (an:∀w,AS (AH L (some d1) w) ops ⟨d,.call ⟨.builtin .append,#[x,.tmp d1],ats⟩,ty,p,af,g⟩=some true) (ao:BC b n ⟨d,.call ⟨.builtin .append,#[x,.tmp d1],ats⟩,ty,p,af,g⟩=true)
  (ap:∀w,ev (AH L (some d1) w) x=some (.slice a l c)) (aq:ev L y=some v) (ar:ats[0]? =some t) (au:ats[1]? =some t1) (ht:P.underlying t=some (.slice e)) (av:P.underlying t1=some (.slice e)) (aw:P.underlying t2=some (.slice e)) (ac:Bf P e=some A) (hb:CH P e=some K) (ae:zeroOf P e=some z) (ag:z.cells.size=A)
  (ay:0<K) (az:K≤64) (Z:v.cells.size=A) (aF:0<A) (aG:A≤64) (aA:l+1≤2 ^ 40) (aB:∀w∈v.cells.toList,Bs w=true) (aC:GS e A a l c blk xs) (aD:Nd E H (B0++blk))
  (h:∀w ah ai aa,GS e A ah (l+1) ai aa (xs++v.cells.toList)→Nd E H (B0++aa)→JL J Q b n (AH (AH L (some d1) w) d (.slice ah (l+1) ai)) ds (.inRegion ops rest::k) cs (mk E H (B0++aa))):
  JL J Q b n L ds (.inRegion ops (i::ab::rest)::k) cs (mk E H (B0++blk)):=by
 refine JL.op ak hw al fun ρ aE=>?_;rw [Nv,aE y _ aq];refine AF _ _ (Nr (z:=z) (v:=v) aw (by rw [Z];exact ac) ae (by rw [Z];exact ag) (by omega) (by omega) aD fun r aj=>?_);refine JL.Fs (B1:= [(r,.cells v.cells e (0,0))]) (m:=1) (cx:=1) (ax:=some ⟨r,0,none⟩) (y:= .tmp d1) (x:=x) (ys:=v.cells.toList) (l:=l) (c:=c) (a:=a) (blk:=blk) (xs:=xs) am (an _) ao (ap _) QP ar au ht av ac hb ae ag ay az (by omega) aA aB aC aj ?_ (h _);exact Oj Z aj
theorem JL.OQ{e:TypeId}{A l c:Nat}{a:Option Addr}{blk:List (Nat×Obj)}{xs:List Value}{todo:List Item}(aa:GS e A a l c blk xs)(U:Nd E H (B0++blk))
  (h:∀E',Le E E'→Hm E' A (.slice a l c) l xs→Nd E' H B0→JL J Q b n L ds todo cs (mk E' H B0)):JL J Q b n L ds todo cs (mk E H (B0++blk)):=by
 rcases aa with⟨rfl,rfl,rfl,rfl,rfl⟩ | ⟨K,f,rfl,rfl,ab,W,rfl⟩
 ·simp only [List.append_nil] at U ⊢;exact h E (Le.refl _) .nil U
 ·have ac:(B0++ [(K,Obj.cells f e (0,0))])[B0.length]? =some (K,Obj.cells f e (0,0)):=by simp
  refine JL.freeze B0.length U ac fun E' hle ae Z=>?_;have ag:(B0++ [(K,Obj.cells f e (0,0))]).eraseIdx B0.length=B0:=by rw [List.eraseIdx_append_of_length_le (Nat.le_refl _)];simp
  rw [ag] at Z ⊢;refine h E' hle ⟨_,c,rfl,W,?_,.inr ⟨K,0,f,e,(0,0),rfl,ae,fun j w O=>?_⟩⟩ Z
  ·have:l*A≤c*A:=Nat.mul_le_mul_right _ W;simp [ab,Nat.min_eq_left this]
  ·rw [List.getElem?_take] at O;split at O
   ·simpa using O
   ·cases O
end
end Pal
namespace Pal
open Go Go.Conc
abbrev Cv(s:Nat):Value:= .int .u16 (s:Int)
abbrev iV(n:Int):Value:= .int .i64 n
section
variable {P:Program}{s:St}{ρ:Operand→Value}{d:Option Tmp}{t u ty:TypeId}{x y:Operand}{p:String}{af:Array Edge}{g:Option (Nat×Bool)}{a c:Nat}
theorem I7{m:Nat}(h:m<65536):IntKind.u16.wrap (m:Int)=m:=by
 simp only [IntKind.wrap,IntKind.bits,IntKind.signed];simp;omega
theorem Iw{m:Nat}(h:m<65536):(BitVec.ofInt IntKind.u16.bits (m:Int)).toNat=m:=by
 simp [IntKind.bits,BitVec.toNat_ofInt];omega
theorem Yl.R5(A:ρ x=Cv a)(K:ρ y=iV (c:Int))(O:c≤16):Yl P ⟨d,.binOp .shr t x y u,ty,p,af,g⟩ ρ s (Cv (a>>>c)):=by
 have h:=Yl.shr (P:=P) (s:=s) (d:=d) (t:=t) (u:=u) (ty:=ty) (p:=p) (af:=af) (g:=g) A K (by omega);have e:((a:Int).fdiv (2 ^ (min (c:Int).toNat IntKind.u16.bits)))=((a>>>c:Nat):Int):=by
  have:min (c:Int).toNat IntKind.u16.bits=c:=by simp [IntKind.bits];omega
  rw [this,Nat.shiftRight_eq_div_pow,Int.fdiv_eq_ediv_of_nonneg _ (Int.pow_nonneg (by decide))];rw [Int.natCast_ediv]
  rfl
 rw [e] at h;exact h
theorem Yl.R1(K:ρ x=Cv a)(O:ρ y=Cv c)(A:a<65536)(U:c<65536):Yl P ⟨d,.binOp .and t x y u,ty,p,af,g⟩ ρ s (Cv (a&&& c)):=by
 have h:=Yl.and (P:=P) (s:=s) (d:=d) (t:=t) (u:=u) (ty:=ty) (p:=p) (af:=af) (g:=g) K O;rw [BitVec.toNat_and,Iw A,Iw U,I7 (Nat.lt_of_le_of_lt Nat.and_le_left A)] at h;exact h
theorem Yl.Sj(O:ρ x=Cv a)(U:ρ y=Cv c)(A:a<65536)(K:c<65536):Yl P ⟨d,.binOp .or t x y u,ty,p,af,g⟩ ρ s (Cv (a ||| c)):=by
 have h:=Yl.or (P:=P) (s:=s) (d:=d) (t:=t) (u:=u) (ty:=ty) (p:=p) (af:=af) (g:=g) O U;rw [BitVec.toNat_or,Iw A,Iw K,I7 (Nat.or_lt_two_pow (n:=16) A K)] at h;exact h
theorem Yl.R6(A:ρ x=Cv 1)(K:ρ y=iV (c:Int))(O:c<16):Yl P ⟨d,.binOp .shl t x y u,ty,p,af,g⟩ ρ s (Cv (1<<<c)):=by
 have h:=Yl.shl (P:=P) (s:=s) (d:=d) (t:=t) (u:=u) (ty:=ty) (p:=p) (af:=af) (g:=g) A K (by omega);have e:IntKind.u16.wrap (((1:Nat):Int)*2 ^ (min (c:Int).toNat IntKind.u16.bits))=((1<<<c:Nat):Int):=by
  have U:min (c:Int).toNat IntKind.u16.bits=c:=by simp [IntKind.bits];omega
  have W:(1<<<c)<65536:=by rw [Nat.one_shiftLeft];exact Nat.pow_lt_pow_right (n:=16) (by omega) O
  rw [U,← I7 W,Nat.one_shiftLeft];simp
 rw [e] at h;exact h
end
theorem IZ{P:Program}{t:TypeId}{A:TypeInfo}(h:P.types[t]? =some A):P.info? t=some A:=by
 have:=(Array.getElem?_eq_some_iff.1 h).1;unfold Tables.info?;rw [if_pos this,h]
theorem Ah{P:Program}{t:TypeId}{A:TypeInfo}(h:P.types[t]? =some A):Bf P t=some A.size:=by simp [Bf,IZ h]
theorem Cp{P:Program}{t:TypeId}{A:TypeInfo}(h:P.types[t]? =some A):CH P t=some A.bytes:=by simp [CH,IZ h]
theorem AN{P:Program}{t:TypeId}{A:TypeInfo}(h:P.types[t]? =some A):zeroOf P t=A.zero:=by simp [zeroOf,IZ h]
def QY:TypeDesc→Bool | .struct _=>true | .array _ _=>true | _=>false
theorem Ao{P:Program}{t:TypeId}{d:TypeDesc}(h:P.underlying t=some d):Cm P t=some (QY d):=by
 unfold Cm;rw [h];cases d <;> rfl
theorem Ay{P:Program}{f:FuncId}{fn:Func}(h:P.funcs[f]? =some fn)(hb:(!(fn.name== "runtime.NumGoroutine")&&fn.body.isSome)=true):Cd P f=true:=by
 simp only [Cd,h];exact hb
theorem Pa(a c:Nat):decide (((a>>>c&&& 1:Nat):Int)=((1:Nat):Int))=a.testBit c:=by
 have:a.testBit c=decide ((a>>>c)&&& 1=1):=by
  rw [Nat.testBit,Nat.and_comm];rcases Nat.mod_two_eq_zero_or_one (a>>>c) with h | h <;> simp [Nat.and_one_is_mod,Nat.one_and_eq_mod_two,h]
 rw [this];congr 1;simp only [eq_iff_iff];omega
def Me(a:Nat):Nat→List Nat
 | 0=> []
 | n+1=>Me a n++(if a.testBit n then [n] else [])
abbrev Iu(a:Nat):List Nat:=Me a 16
end Pal
namespace Pal
end Pal
namespace Pal
open Go Go.Conc
end Pal
namespace Pal
open Go Go.Conc
def At(E:LH)(A o:Nat)(ws:List Value):Prop:=∃f e fr,E A=some (.cells f e fr)∧∀j w,ws[j]? =some w→f[o+j]? =some w
theorem At.mono{E E':LH}{A o:Nat}{ws:List Value}(h:At E A o ws)(hle:Le E E'):At E' A o ws:=let ⟨f,e,fr,K,O⟩:=h;⟨f,e,fr,hle _ _ K,O⟩
theorem At.cell{E H:LH}{B:List (Nat×Obj)}{A o j:Nat}{ws:List Value}{w:Value}(h:At E A o ws)(K:ws[j]? =some w):(mk E H B).cell? ⟨A,o+j,none⟩=some w:=
 let ⟨_,_,_,O,U⟩:=h;N9 O (U j w K)
theorem At.cells{E H:LH}{B:List (Nat×Obj)}{A o:Nat}{ws:List Value}(h:At E A o ws):∀j v,ws[j]? =some v→(mk E H B).cell? (Addr.add ⟨A,o,none⟩ j)=some v:=fun j v K=>by
 rw [Ba rfl];exact h.cell K
def Si(E:LH)(O:Nat)(v:Value)(A:List (List Value)):Prop:=
 ∃a c,v= .slice a A.length c∧A.length≤c∧(A= []∨∃K off,a=some ⟨K,off,none⟩∧∀i xs,A[i]? =some xs→At E K (off+i*O) xs)
section
variable {P:Program}{J:Judge P}{Q:Goroutine→St→Prop}{b:Frame}{n:Nat}{ds:List Deferred}{ops:Array Oper}{k:List Item}{cs:List Frame}{L:Env}{s:St}{E E' H:LH}{B B0:List (Nat×Obj)}
variable {d:Option Tmp}{x y:Operand}{t u ty e:TypeId}{p:String}{af:Array Edge}{g:Option (Nat×Bool)}{v:Value}{i:Nat}{rest:List Nat}{kd:IntKind}
theorem JL.SA{K:Nat}{O:List (List Value)}{xs:List Value}{m:Nat}(W:Si E K v O)(hm:O[m]? =some xs)
  (Z:ops[i]? =some ⟨d,.indexAddr t x y,ty,p,af,g⟩) (hw:AS L ops ⟨d,.indexAddr t x y,ty,p,af,g⟩=some true) (aa:BC b n ⟨d,.indexAddr t x y,ty,p,af,g⟩=true)
  (ab:ev L x=some v) (ac:ev L y=some (.int kd (m:Int))) (ht:P.underlying t=some (.slice e)) (ae:Bf P e=some K)
  (h:∀A o,At E A o xs→JL J Q b n (AH L d (.pointer (some ⟨A,o,none⟩))) ds (.inRegion ops rest::k) cs (mk E H B)):
  JL J Q b n L ds (.inRegion ops (i::rest)::k) cs (mk E H B):=by
 obtain⟨a,c,ag,ak,ah⟩:=W;have ai:m<O.length:=(List.getElem?_eq_some_iff.1 hm).1;rcases ah with rfl | ⟨A,off,rfl,aj⟩
 ·simp at ai
 ·subst ag;refine JL.y (v:= .pointer (some ⟨A,off+m*K,none⟩)) Z hw aa (fun ρ U=>?_) (h A (off+m*K) (aj m xs hm));have:=Yl.HY (P:=P) (s:=mk E H B) (d:=d) (ty:=ty) (p:=p) (af:=af) (g:=g) ht ae (U x _ ab) (U y _ ac) ⟨by omega,by omega⟩;rw [Ba rfl] at this;simpa using this
theorem JL.put(h:look L i=some v)(K:JL J Q b n (AH L (some i) v) ds k cs s):JL J Q b n L ds k cs s:=fun T A=>
 K T ⟨A.size,fun t w e=>by
  simp only [AH,look] at e
  split at e
  ·rename_i O;subst O;cases e;exact A.at_ _ _ h
  ·exact A.at_ _ _ e⟩
theorem JL.BP{q:Prop} [Decidable q] (h:look L i=some (.bool (decide q)))(K:q→JL J Q b n (AH L (some i) (.bool true)) ds k cs s)(O:¬q→JL J Q b n (AH L (some i) (.bool false)) ds k cs s):JL J Q b n L ds k cs s:=by
 by_cases A:q
 ·refine JL.put (i:=i) (v:= .bool true) ?_ (K A);rw [h,decide_eq_true A]
 ·refine JL.put (i:=i) (v:= .bool false) ?_ (O A);rw [h,decide_eq_false A]
theorem JL.BW{c:Bool}(h:look L i=some (.bool c))(A:c=true→JL J Q b n (AH L (some i) (.bool true)) ds k cs s)(K:c=false→JL J Q b n (AH L (some i) (.bool false)) ds k cs s):JL J Q b n L ds k cs s:=by
 cases c
 ·exact JL.put h (K rfl)
 ·exact JL.put h (A rfl)
end
end Pal
namespace Pal
open Go Go.Conc
theorem Yl.Nf{P:Program}{s:St}{ρ:Operand→Value}{d:Option Tmp}{t ty ft:TypeId}{x:Operand}{p:String}{af:Array Edge}{g:Option (Nat×Bool)}{a:Addr}{A:Array Field}{i:Nat}{fl:Field}(K off:Nat)(ht:P.underlying t=some (.struct A))(O:Bf P ft=some (K+1))(hi:A[i]? =some fl)(U:fl.type=ft)(W:fl.offset=off)(Z:ρ x= .pointer (some a)):
  Yl P ⟨d,.fieldAddr t x i,ty,p,af,g⟩ ρ s (.pointer (some (a.add off))):=by
 subst U W;exact Yl.fieldAddr ht hi O Z
end Pal
namespace Pal
open Go Go.Conc
section
variable {P:Program}{J:Judge P}{Q:Goroutine→St→Prop}{b:Frame}{n:Nat}{ds:List Deferred}{ops:Array Oper}{k:List Item}{cs:List Frame}{L:Env}{s:St}{E E' H:LH}{B B0:List (Nat×Obj)}
variable {d:Option Tmp}{x y:Operand}{t u ty e:TypeId}{p:String}{af:Array Edge}{g:Option (Nat×Bool)}{v:Value}{i:Nat}{rest:List Nat}{kd:IntKind}
theorem JL.Sy(K:ops[i]? =some ⟨d,.box e x,ty,p,af,g⟩)(hw:AS L ops ⟨d,.box e x,ty,p,af,g⟩=some true)(O:BC b n ⟨d,.box e x,ty,p,af,g⟩=true)(U:Nd E H B)(W:ev L x=some v)
  (h:∀r E',Le E E'→At E' r 0 v.cells.toList→Nd E' H B→JL J Q b n (AH L d (.pointer (some ⟨r,0,none⟩))) ds (.inRegion ops rest::k) cs (mk E' H B)):
  JL J Q b n L ds (.inRegion ops (i::rest)::k) cs (mk E H B):=by
 refine JL.box K hw O U W fun r Z=>?_;have aa:(B++ [(r,Obj.cells v.cells e (0,0))])[B.length]? =some (r,Obj.cells v.cells e (0,0)):=by simp
 refine JL.freeze B.length Z aa fun E' hle ab A=>?_;have ac:(B++ [(r,Obj.cells v.cells e (0,0))]).eraseIdx B.length=B:=by rw [List.eraseIdx_append_of_length_le (Nat.le_refl _)];simp
 rw [ac] at A ⊢;exact h r E' hle ⟨_,_,_,ab,fun j w ae=>by simpa using ae⟩ A
theorem At.Cq{A o j:Nat}{ws:List Value}{w:Value}(h:At E A o ws)(hs:∀x o,E x=some o→s.E x=some o)(K:ws[j]? =some w):s.cell? ⟨A,o+j,none⟩=some w:=by
 obtain⟨f,e,fr,O,U⟩:=h;unfold St.cell? St.get;rw [hs _ _ O];exact U j w K
theorem At.Ji{A o:Nat}{ws:List Value}(h:At E A o ws)(hs:∀x o,E x=some o→s.E x=some o):∀j v,ws[j]? =some v→s.cell? (Addr.add ⟨A,o,none⟩ j)=some v:=fun j v K=>by
 rw [Ba rfl];exact h.Cq hs K
end
section
variable {P:Program}{J:Judge P}{Q:Goroutine→St→Prop}{b:Frame}{n:Nat}{ds:List Deferred}{ops:Array Oper}{k:List Item}{cs:List Frame}{m fuel:Nat}{listed:Array Bool}{L:Env}{E H:LH}{B:List (Nat×Obj)}
variable {d:Option Tmp}{x y:Operand}{t u ty e:TypeId}{p:String}{af:Array Edge}{g:Option (Nat×Bool)}{v:Value}{i:Nat}{kd:IntKind}
end
end Pal
namespace Pal
open Go Go.Conc
section
variable {P:Program}{J:Judge P}{Q:Goroutine→St→Prop}{b:Frame}{n:Nat}{ds:List Deferred}{ops:Array Oper}{k:List Item}{cs:List Frame}{m fuel:Nat}{D:Nat→Bool}{listed:Array Bool}{L:Env}{s:St}{i:Nat}{v:Value}
theorem Av.put(h:look L i=some v)(K:Av J Q b n ds ops k cs m D fuel listed (AH L (some i) v) s):Av J Q b n ds ops k cs m D fuel listed L s:=fun T A=>
 K T ⟨A.size,fun t w e=>by
  simp only [AH,look] at e
  split at e
  ·rename_i O;subst O;cases e;exact A.at_ _ _ h
  ·exact A.at_ _ _ e⟩
theorem Av.BP{q:Prop} [Decidable q] (h:look L i=some (.bool (decide q)))(K:q→Av J Q b n ds ops k cs m D fuel listed (AH L (some i) (.bool true)) s)(O:¬q→Av J Q b n ds ops k cs m D fuel listed (AH L (some i) (.bool false)) s):Av J Q b n ds ops k cs m D fuel listed L s:=by
 by_cases A:q
 ·refine Av.put (i:=i) (v:= .bool true) ?_ (K A);rw [h,decide_eq_true A]
 ·refine Av.put (i:=i) (v:= .bool false) ?_ (O A);rw [h,decide_eq_false A]
theorem Av.BW{c:Bool}(h:look L i=some (.bool c))(A:c=true→Av J Q b n ds ops k cs m D fuel listed (AH L (some i) (.bool true)) s)(K:c=false→Av J Q b n ds ops k cs m D fuel listed (AH L (some i) (.bool false)) s):Av J Q b n ds ops k cs m D fuel listed L s:=by
 cases c
 ·exact Av.put h (K rfl)
 ·exact Av.put h (A rfl)
end
end Pal
namespace Pal
open Go Go.Conc
structure Rp (α:Type) where
 n:Nat
 r:LH→List Value→α→Prop
 mono:∀{E E':LH} {ws:List Value} {x:α},Le E E'→r E ws x→r E' ws x
 len:∀{E:LH} {ws:List Value} {x:α},r E ws x→ws.length=n
 one:∀{E:LH} {ws:List Value} {x:α},r E ws x→∀w∈ws,Bs w=true
def rK(kd:IntKind):Rp Int:=⟨1,fun _ ws x=>ws= [.int kd x],fun _ h=>h,fun h=>by subst h;rfl,fun h w hw=>by subst h;simp at hw;subst hw;rfl⟩
abbrev rI:Rp Int:=rK .i64
def rN(kd:IntKind):Rp Nat:=⟨1,fun _ ws x=>ws= [.int kd ((x:Nat):Int)],fun _ h=>h,fun h=>by subst h;rfl,fun h w hw=>by subst h;simp at hw;subst hw;rfl⟩
def rP{α β:Type}(p:Rp α)(q:Rp β):Rp (α×β):=⟨p.n+q.n,fun E ws x=>∃O U,ws=O++U∧p.r E O x.1∧q.r E U x.2,
 fun hle ⟨a,b,h,A,K⟩=>⟨a,b,h,p.mono hle A,q.mono hle K⟩,fun⟨a,b,h,A,K⟩=>by subst h;rw [List.length_append,p.len A,q.len K],
 fun⟨a,b,h,A,K⟩ w hw=>by
  subst h
  rcases List.mem_append.1 hw with hw | hw
  ·exact p.one A w hw
  ·exact q.one K w hw⟩
def Ar{α:Type}(p:Rp α)(E:LH)(a:Option Addr)(c:Nat)(xs:List α):Prop:=
 xs.length≤c∧((xs= []∧∀ad:Addr,a=some ad→ad.spot=none)∨∃A off,a=some ⟨A,off,none⟩∧∀(i:Nat) x,xs[i]? =some x→∃ws,p.r E ws x∧At E A (off+i*p.n) ws)
theorem Ar.mono{α:Type}{p:Rp α}{E E':LH}{a:Option Addr}{c:Nat}{xs:List α}(h:Ar p E a c xs)(hle:Le E E'):Ar p E' a c xs:=
 ⟨h.1,h.2.imp id fun⟨A,off,K,O⟩=>⟨A,off,K,fun i x U=>let ⟨ws,W,Z⟩:=O i x U;⟨ws,p.mono hle W,Z.mono hle⟩⟩⟩
theorem Ar.nil{α:Type}{p:Rp α}{E:LH}{c:Nat}:Ar p E none c []:=⟨Nat.zero_le _,.inl ⟨rfl,fun _ h=>by cases h⟩⟩
def rL{α:Type}(p:Rp α):Rp (List α):=⟨1,fun E ws xs=>∃a c,ws= [.slice a xs.length c]∧Ar p E a c xs,
 fun hle ⟨a,c,h,A⟩=>⟨a,c,h,A.mono hle⟩,fun⟨a,c,h,A⟩=>by subst h;rfl,fun⟨a,c,h,A⟩ w hw=>by subst h;simp at hw;subst hw;rfl⟩
def Sz{α:Type}(p:Rp α):Rp α:=⟨1,fun E ws x=>∃A o us,ws= [.pointer (some ⟨A,o,none⟩)]∧At E A o us∧p.r E us x,
 fun hle ⟨A,o,us,h,K,O⟩=>⟨A,o,us,h,K.mono hle,p.mono hle O⟩,fun⟨A,o,us,h,_,_⟩=>by subst h;rfl,fun⟨A,o,us,h,_,_⟩ w hw=>by subst h;simp at hw;subst hw;rfl⟩
def rA{α:Type}(k:Nat)(p:Rp α):Rp (List α):=⟨k*p.n,fun E ws xs=>xs.length=k∧∃wss:List (List Value),ws=wss.flatten∧wss.length=k∧∀(i:Nat) x us,xs[i]? =some x→wss[i]? =some us→p.r E us x,
 fun hle ⟨O,wss,h,A,K⟩=>⟨O,wss,h,A,fun i x us a b=>p.mono hle (K i x us a b)⟩,
 fun {E ws xs} ⟨O,wss,h,A,K⟩=>by
  subst h
  have:∀(wss:List (List Value)) (xs:List α),xs.length=wss.length→(∀(i:Nat) x us,xs[i]? =some x→wss[i]? =some us→p.r E us x)→wss.flatten.length=wss.length*p.n:=by
   intro wss
   induction wss with
   | nil=>intro xs _ _;simp
   | cons us wss W=>
    intro xs U h
    cases xs with
    | nil=>simp at U
    | cons x xs=>
     rw [List.flatten_cons,List.length_append,p.len (h 0 x us rfl rfl),W xs (by simpa using U) (fun i y u a b=>h (i+1) y u a b),List.length_cons,Nat.succ_mul,Nat.add_comm]
  rw [this wss xs (by omega) K,A],
 fun {E ws xs} ⟨O,wss,h,A,K⟩ w hw=>by
  subst h
  obtain⟨us,Z,hw⟩:=List.mem_flatten.1 hw
  obtain⟨i,hi⟩:=List.mem_iff_getElem?.1 Z
  have aa:i<xs.length:=by rw [O,← A];exact(List.getElem?_eq_some_iff.1 hi).1
  exact p.one (K i _ us (List.getElem?_eq_getElem aa) hi) w hw⟩
def ix{α:Type}(xs:List α)(i:Int):Option α:=if 0≤i then xs[i.toNat]? else none
theorem EP{α:Type}{xs:List α}{i:Int}{x:α}(h:ix xs i=some x):∃m:Nat,i=m∧xs[m]? =some x:=by
 unfold ix at h;split at h
 ·exact⟨i.toNat,by omega,h⟩
 ·cases h
def Aw(x:Int):Option Int:=if -9223372036854775808≤x∧x≤9223372036854775807 then some x else none
theorem GK{x y:Int}(h:Aw x=some y):y=x∧ -9223372036854775808≤x∧x≤9223372036854775807:=by
 unfold Aw at h;split at h
 ·rename_i hb;exact⟨(Option.some.inj h).symm,hb⟩
 ·cases h
theorem bind_some{α β:Type}{o:Option α}{f:α→Option β}{r:β}(h:o.bind f=some r):∃x,o=some x∧f x=some r:=by
 cases o with
 | none=>cases h
 | some x=>exact⟨x,rfl,h⟩
inductive AU (S A:Type) where
 | more (s:S)
 | done (a:A)
def iter{S A:Type}(body:S→Option (AU S A)):Nat→S→Option A
 | 0,_=>none
 | f+1,s=>match body s with
  | none=>none
  | some (.done a)=>some a
  | some (.more s')=>iter body f s'
theorem KG{S A:Type}{body:S→Option (AU S A)}{f:Nat}{s:S}{a:A}(h:iter body (f+1) s=some a):∃st,body s=some st:=by
 simp only [iter] at h;cases hb:body s with
 | none=>rw [hb] at h;cases h
 | some st=>exact⟨st,rfl⟩
theorem Kt{S A:Type}{body:S→Option (AU S A)}{f:Nat}{s:S}{a K:A}(h:iter body (f+1) s=some a)(hb:body s=some (.done K)):K=a:=by
 simp only [iter,hb] at h;exact Option.some.inj h
theorem Kz{S A:Type}{body:S→Option (AU S A)}{f:Nat}{s s':S}{a:A}(h:iter body (f+1) s=some a)(hb:body s=some (.more s')):iter body f s'=some a:=by
 simp only [iter,hb] at h;exact h
abbrev Seg:=List (Nat×Obj)
def Ap(E H:LH)(S:List Seg):St:=mk E H S.flatten
def Az(E H:LH)(S:List Seg):Prop:=Nd E H S.flatten
theorem Nd.mem{E H:LH}:∀{B:List (Nat×Obj)} {b:Nat} {o:Obj},Nd E H B→(b,o)∈B→∃i:Nat,B[i]? =some (b,o):=fun _ h=>List.mem_iff_getElem?.1 h
theorem Nd.iff{E H:LH}:∀{B:List (Nat×Obj)},Nd E H B↔(B.map (·.1)).Nodup∧∀p∈B,E p.1=none∧H p.1=none
 | []=>by simp [Nd]
 | (b,o)::B=>by
  simp only [Nd,List.map_cons,List.nodup_cons,List.mem_cons,forall_eq_or_imp,Nd.iff (B:=B),List.mem_map,not_exists,not_and]
  constructor
  ·rintro⟨A,K,O,U,W⟩;exact⟨⟨O,U⟩,⟨A,K⟩,W⟩
  ·rintro⟨⟨O,U⟩,⟨A,K⟩,W⟩;exact⟨A,K,O,U,W⟩
theorem Nd.perm{E H:LH}{B B':List (Nat×Obj)}(h:Nd E H B)(A:B.Perm B'):Nd E H B':=by
 rw [Nd.iff] at h ⊢;exact⟨(A.map _).nodup_iff.1 h.1,fun p K=>h.2 p (A.mem_iff.2 K)⟩
theorem GJ{E H:LH}{B B':List (Nat×Obj)}(h:Nd E H B)(A:B.Perm B'):AT B H=AT B' H:=by
 funext x;by_cases K:∃p∈B,p.1=x
 ·obtain⟨⟨b,o⟩,hm,rfl⟩:=K;obtain⟨i,hi⟩:=h.mem hm;obtain⟨j,O⟩:=(h.perm A).mem (A.mem_iff.1 hm);rw [Fp h hi,Fp (h.perm A) O]
 ·have key:∀{C:List (Nat×Obj)},(∀p∈C,p.1≠x)→AT C H x=H x:=by
   intro C
   induction C with
   | nil=>intro _;rfl
   | cons p C U=>
    intro hC;obtain⟨c,u⟩:=p;have W:x≠c:=fun e=>hC (c,u) (by simp) e.symm;simp only [AT,if_neg W];exact U fun p A=>hC p (List.mem_cons_of_mem _ A)
  rw [key fun p A e=>K ⟨p,A,e⟩,key fun p Z e=>K ⟨p,A.mem_iff.2 Z,e⟩]
theorem CW{E H:LH}{B B':List (Nat×Obj)}(h:Nd E H B)(A:B.Perm B'):mk E H B=mk E H B':=by unfold mk;rw [GJ h A]
theorem Co{S:List Seg}{j:Nat}{seg seg':Seg}(h:S[j]? =some seg):S.flatten.Perm ((S.set j []).flatten++seg)∧(S.set j seg').flatten.Perm ((S.set j []).flatten++seg'):=by
 induction S generalizing j with
 | nil=>simp at h
 | cons x S A=>
  cases j with
  | zero=>
   simp at h;subst h;simp only [List.set_cons_zero,List.flatten_cons,List.nil_append];exact⟨List.perm_append_comm,List.perm_append_comm⟩
  | succ j=>
   simp at h;obtain⟨K,O⟩:=A h;simp only [List.set_cons_succ,List.flatten_cons,List.append_assoc];exact⟨K.append_left x,O.append_left x⟩
theorem DR{E H:LH}{S:List Seg}{j:Nat}{seg:Seg}(A:Az E H S)(h:S[j]? =some seg):Ap E H S=mk E H ((S.set j []).flatten++seg)∧Nd E H ((S.set j []).flatten++seg):=
 ⟨CW A (Co (seg':=seg) h).1,Nd.perm A (Co (seg':=seg) h).1⟩
theorem ES{E H:LH}{S:List Seg}{j:Nat}{seg seg':Seg}(h:S[j]? =some seg)(A:Nd E H ((S.set j []).flatten++seg')):mk E H ((S.set j []).flatten++seg')=Ap E H (S.set j seg')∧Az E H (S.set j seg'):=
 ⟨CW A (Co h).2.symm,Nd.perm A (Co h).2.symm⟩
theorem D7(S:List Seg)(seg:Seg):(S++ [seg]).flatten=S.flatten++seg:=by simp
theorem CF{E H:LH}{S:List Seg}{seg:Seg}(A:Nd E H (S.flatten++seg)):mk E H (S.flatten++seg)=Ap E H (S++ [seg])∧Az E H (S++ [seg]):=by
 unfold Ap Az;rw [D7];exact⟨rfl,A⟩
theorem CI{E H:LH}{S:List Seg}{j i A:Nat}{seg:Seg}{o:Obj}(K:Az E H S)(O:S[j]? =some seg)(hi:seg[i]? =some (A,o)):(Ap E H S).get A=some o:=by
 have hm:(A,o)∈S.flatten:=List.mem_flatten.2 ⟨seg,List.mem_of_getElem? O,List.mem_of_getElem? hi⟩;obtain⟨W,U⟩:=K.mem hm;exact II K U
theorem Ci{E H:LH}{S:List Seg}{j A off:Nat}{c:Array Value}{e:TypeId}{f:Nat×Nat}{v:Value}{seg:Seg}(K:Az E H S)(O:S[j]? =some ((A,.cells c e f)::seg))(U:c[off]? =some v):(Ap E H S).cell? ⟨A,off,none⟩=some v:=by
 unfold St.cell?;rw [CI (i:=0) K O rfl];exact U
theorem NR{E H:LH}{S:List Seg}{j A off:Nat}{c:Array Value}{e:TypeId}{f:Nat×Nat}{vs:List Value}{seg:Seg}(K:Az E H S)(O:S[j]? =some ((A,.cells c e f)::seg))(U:∀i v,vs[i]? =some v→c[off+i]? =some v):∀i v,vs[i]? =some v→(Ap E H S).cell? (Addr.add ⟨A,off,none⟩ i)=some v:=fun i v hi=>by
 rw [Ba rfl];exact Ci K O (U i v hi)
def OL{α:Type}(e:TypeId)(p:Rp α)(E:LH)(a:Option Addr)(c:Nat)(seg:Seg)(xs:List α):Prop:=
 ∃wss:List (List Value),GS e p.n a xs.length c seg wss.flatten∧wss.length=xs.length∧∀(i:Nat) x ws,xs[i]? =some x→wss[i]? =some ws→p.r E ws x
theorem OL.mono{α:Type}{e:TypeId}{p:Rp α}{E E':LH}{a:Option Addr}{c:Nat}{seg:Seg}{xs:List α}(h:OL e p E a c seg xs)(hle:Le E E'):OL e p E' a c seg xs:=
 let ⟨wss,A,K,O⟩:=h;⟨wss,A,K,fun i x ws U hw=>p.mono hle (O i x ws U hw)⟩
theorem OL.nil{α:Type}{e:TypeId}{p:Rp α}{E:LH}:OL e p E none 0 [] []:=⟨[],GS.nil,rfl,fun i x ws A=>by simp at A⟩
theorem Fq{α:Type}{p:Rp α}{E:LH}{wss:List (List Value)}{xs:List α}(A:wss.length=xs.length)(h:∀(i:Nat) x ws,xs[i]? =some x→wss[i]? =some ws→p.r E ws x):∀ws∈wss,ws.length=p.n:=fun ws hw=>by
 obtain⟨i,hi⟩:=List.mem_iff_getElem?.1 hw
 have K:i<xs.length:=by rw [← A];exact(List.getElem?_eq_some_iff.1 hi).1
 exact p.len (h i _ ws (List.getElem?_eq_getElem K) hi)
theorem Gb{α:Type}{n:Nat}:∀{wss:List (List α)},(∀ws∈wss,ws.length=n)→∀{i:Nat} {ws:List α},wss[i]? =some ws→∀j w,ws[j]? =some w→wss.flatten[i*n+j]? =some w
 | [],_,_,_,h,_,_,_=>by simp at h
 | us::wss,K,0,ws,h,j,w,A=>by
  simp at h;subst h
  have:j<us.length:=(List.getElem?_eq_some_iff.1 A).1
  simp only [List.flatten_cons,Nat.zero_mul,Nat.zero_add]
  rw [List.getElem?_append_left this];exact A
 | us::wss,K,i+1,ws,h,j,w,A=>by
  simp at h
  have hu:us.length=n:=K us (by simp)
  simp only [List.flatten_cons]
  rw [List.getElem?_append_right (by rw [hu,Nat.succ_mul];omega)]
  have e:(i+1)*n+j - us.length=i*n+j:=by rw [hu,Nat.succ_mul];omega
  rw [e];exact Gb (fun ws hw=>K ws (List.mem_cons_of_mem _ hw)) h j w A
end Pal
namespace Pal
open Go Go.Conc
section
variable {P:Program}{s:St}{ρ:Operand→Value}{x y z:Operand}{d:Option Tmp}{t u ty e:TypeId}{p:String}{af:Array Edge}{g:Option (Nat×Bool)}{v:Value}{kd kd':IntKind}{m m':Int}{a b:Nat}
theorem JJ{a:Nat}:IntKind.u64.wrap (a:Int)=((a % 2 ^ 64:Nat):Int):=by
 simp only [IntKind.wrap,IntKind.bits,IntKind.signed];simp
theorem Yl.R0(A:ρ x= .int .u64 (a:Int))(K:ρ y= .int .u64 (b:Int)):Yl P ⟨d,.binOp .add t x y u,ty,p,af,g⟩ ρ s (.int .u64 (((a+b) % 2 ^ 64:Nat):Int)):=by
 have h:=Yl.add (P:=P) (s:=s) (d:=d) (t:=t) (u:=u) (ty:=ty) (p:=p) (af:=af) (g:=g) A K;rw [show((a:Int)+(b:Int))=((a+b:Nat):Int) by omega,JJ] at h;exact h
theorem Yl.Ir(A:ρ x= .int .u64 (a:Int))(K:ρ y= .int .u64 (b:Int)):Yl P ⟨d,.binOp .mul t x y u,ty,p,af,g⟩ ρ s (.int .u64 (((a*b) % 2 ^ 64:Nat):Int)):=by
 have h:=Yl.mul (P:=P) (s:=s) (d:=d) (t:=t) (u:=u) (ty:=ty) (p:=p) (af:=af) (g:=g) A K;rw [show((a:Int)*(b:Int))=((a*b:Nat):Int) by rw [Int.natCast_mul],JJ] at h;exact h
theorem Yl.Im(A:ρ x= .int .u64 (a:Int))(K:ρ y= .int .u64 (b:Int)):Yl P ⟨d,.binOp .xor t x y u,ty,p,af,g⟩ ρ s (.int .u64 (((a ^^^ b) % 2 ^ 64:Nat):Int)):=by
 have h:=Yl.xor (P:=P) (s:=s) (d:=d) (t:=t) (u:=u) (ty:=ty) (p:=p) (af:=af) (g:=g) A K;have e:(BitVec.ofInt IntKind.u64.bits (a:Int) ^^^ BitVec.ofInt IntKind.u64.bits (b:Int)).toNat=(a ^^^ b) % 2 ^ 64:=by
  rw [Nat.xor_mod_two_pow];rw [BitVec.ofInt_natCast,BitVec.ofInt_natCast];show(BitVec.ofNat 64 a ^^^ BitVec.ofNat 64 b).toNat=_;rw [BitVec.toNat_xor,BitVec.toNat_ofNat,BitVec.toNat_ofNat]
 rw [e,JJ,Nat.mod_mod] at h;exact h
theorem Yl.R2(A:ρ x= .int .u64 (a:Int))(K:ρ y= .int .u64 (b:Int))(O:b≠0):Yl P ⟨d,.binOp .rem t x y u,ty,p,af,g⟩ ρ s (.int .u64 ((a % b:Nat):Int)):=by
 have h:=Yl.rem (P:=P) (s:=s) (d:=d) (t:=t) (u:=u) (ty:=ty) (p:=p) (af:=af) (g:=g) A K (by omega);rw [show(a:Int).tmod (b:Int)=((a % b:Nat):Int) from rfl] at h;exact h
theorem Yl.Gy(c:Nat)(A:ρ x= .int .u64 (a:Int))(K:ρ y= .int .u64 (c:Int))(U:c≤64):Yl P ⟨d,.binOp .shr t x y u,ty,p,af,g⟩ ρ s (.int .u64 ((a>>>c:Nat):Int)):=by
 have h:=Yl.shr (P:=P) (s:=s) (d:=d) (t:=t) (u:=u) (ty:=ty) (p:=p) (af:=af) (g:=g) A K (by omega);have e:min (c:Int).toNat IntKind.u64.bits=c:=by simp [IntKind.bits];omega
 rw [e,Int.fdiv_eq_ediv_of_nonneg _ (Int.pow_nonneg (by decide))] at h;have O:(a:Int) / 2 ^ c=((a>>>c:Nat):Int):=by rw [Nat.shiftRight_eq_div_pow,Int.natCast_ediv];rfl
 rw [O] at h;exact h
def BQ(m:Int):Nat:=(m % 2 ^ 64).toNat
def F5(a:Nat):Int:=IntKind.i64.wrap (a:Int)
theorem Yl.BQ(ht:P.underlying t=some (.int .i64))(hu:P.underlying u=some (.int .u64))(A:ρ x=iV m):Yl P ⟨d,.convert t u x,ty,p,af,g⟩ ρ s (.int .u64 ((BQ m:Nat):Int)):=by
 have h:=Yl.conv (P:=P) (s:=s) (d:=d) (ty:=ty) (p:=p) (af:=af) (g:=g) ht hu A
 have e:IntKind.u64.wrap m=((Pal.BQ m:Nat):Int):=by
  unfold Pal.BQ;simp only [IntKind.wrap,IntKind.bits,IntKind.signed];simp;omega
 rw [e] at h;exact h
theorem Yl.F5(ht:P.underlying t=some (.int .u64))(hu:P.underlying u=some (.int .i64))(A:ρ x= .int .u64 (a:Int)):Yl P ⟨d,.convert t u x,ty,p,af,g⟩ ρ s (iV (F5 a)):=
 Yl.conv (P:=P) (s:=s) (d:=d) (ty:=ty) (p:=p) (af:=af) (g:=g) ht hu A
theorem Yl.A1{r:Int}(A:ρ x=iV m)(K:ρ y=iV m')(h:Aw (m+m')=some r):Yl P ⟨d,.binOp .add t x y u,ty,p,af,g⟩ ρ s (iV r):=by
 obtain⟨rfl,hb⟩:=GK h;exact Yl.RY A K hb
theorem Yl.A4{r:Int}(A:ρ x=iV m)(K:ρ y=iV m')(h:Aw (m - m')=some r):Yl P ⟨d,.binOp .sub t x y u,ty,p,af,g⟩ ρ s (iV r):=by
 obtain⟨rfl,hb⟩:=GK h;exact Yl.R7 A K hb
theorem Yl.mulC{r:Int}(A:ρ x=iV m)(K:ρ y=iV m')(h:Aw (m*m')=some r):Yl P ⟨d,.binOp .mul t x y u,ty,p,af,g⟩ ρ s (iV r):=by
 obtain⟨rfl,hb⟩:=GK h;exact Yl.R4 A K hb
theorem Yl.F1{q:Prop} [Decidable q] (A:ρ x= .bool (decide q)):Yl P ⟨d,.unOp .not t x,ty,p,af,g⟩ ρ s (.bool (decide (¬q))):=by
 have h:=Yl.not (P:=P) (s:=s) (d:=d) (t:=t) (ty:=ty) (p:=p) (af:=af) (g:=g) A;simpa using h
theorem Oi{A:Array (Nat×Operand)}:execOp ρ ⟨d,.build t A,ty,p,af,g⟩=(do pure (Next.value (← Instr.build t (A.map fun(j,x)=>(j,ρ x))))):=by
 simp only [execOp]
theorem Yl.build{z:Value}{K:Array Field}{A:Array (Nat×Operand)}{vs:List (Nat×Value)}{places:Array (Nat×Nat)}{cells:Array Value}(W:zeroOf P t=some z)(ht:P.underlying t=some (.struct K))(Z:K.toList.mapM (fun f=>(Bf P f.type).map fun n=>(f.offset,n))=some places.toList)
  (aa:A.toList.map (fun(j,x)=>(j,ρ x))=vs) (ab:Instr.fill (places[·]?) z.cells vs=some cells):Yl P ⟨d,.build t A,ty,p,af,g⟩ ρ s (.agg cells):=by
 refine Yl.Db Oi ?_;unfold Instr.build;refine AF (x:=zeroValue t) _ (Dy W ?_);refine AF _ _ (BU ht ?_);simp only;have key:∀(l:List Field) (acc:List (Nat×Nat)) {Q:List (Nat×Nat)→St→Prop} {X:Halt→St→Prop} (A:List (Nat×Nat)),l.mapM (fun f=>(Bf P f.type).map fun n=>(f.offset,n))=some A→Q (acc.reverse++A) s→lp P (List.mapM.loop (m:=Sem) (fun f=>do pure (f.offset,← Go.sizeOf f.type)) l acc) s Q X:=by
  intro l
  induction l with
  | nil=>
   intro acc Q X A h k;simp at h;subst h;simp only [List.append_nil] at k;exact k
  | cons f l ac=>
   intro acc Q X A h k;simp only [List.mapM_cons,bind] at h;cases O:Bf P f.type with
   | none=>rw [O] at h;simp at h
   | some n=>
    rw [O] at h;simp only [Option.map_some,Option.bind_some] at h;obtain⟨ae,ag,U⟩:=bind_some h;simp at U;subst U;have:=ac ((f.offset,n)::acc) (Q:=Q) (X:=X) ae ag (by simpa using k);simp only [List.mapM.loop];exact AF _ _ (AF (x:=Go.sizeOf f.type) _ (CM O this))
 have e:(A.map fun(j,x)=>(j,ρ x)).toList=vs:=by rw [← aa,Array.toList_map]
 refine AF _ _ ?_;rw [Array.mapM_eq_mapM_toList];refine AF (x:=List.mapM.loop (m:=Sem) (fun f=>do pure (f.offset,← Go.sizeOf f.type)) K.toList []) (f:=fun r=>pure r.toArray) (key K.toList [] places.toList Z ?_)
 simp only [List.reverse_nil,List.nil_append,lp,pure];rw [e,ab];exact⟨rfl,rfl⟩
end
end Pal
namespace Pal
open Go Go.Conc
section
variable {P:Program}{J:Judge P}{Q:Goroutine→St→Prop}{b:Frame}{n:Nat}{ds:List Deferred}{ops:Array Oper}{k:List Item}{cs:List Frame}{L:Env}{s:St}{E E' H:LH}{S:List Seg}
variable {d:Option Tmp}{x y:Operand}{t u ty e:TypeId}{p:String}{af:Array Edge}{g:Option (Nat×Bool)}{v:Value}{i:Nat}{rest:List Nat}{kd:IntKind}
theorem JS.box(K:ops[i]? =some ⟨d,.box e x,ty,p,af,g⟩)(hw:AS L ops ⟨d,.box e x,ty,p,af,g⟩=some true)(O:BC b n ⟨d,.box e x,ty,p,af,g⟩=true)(U:Az E H S)(W:ev L x=some v)
  (h:∀r,Az E H (S++ [[(r,.cells v.cells e (0,0))]])→JL J Q b n (AH L d (.pointer (some ⟨r,0,none⟩))) ds (.inRegion ops rest::k) cs (Ap E H (S++ [[(r,.cells v.cells e (0,0))]]))):
  JL J Q b n L ds (.inRegion ops (i::rest)::k) cs (Ap E H S):=
 JL.box K hw O U W fun r A=>by rw [(CF A).1];exact h r (CF A).2
theorem JS.alloc{z:Value}(K:ops[i]? =some ⟨d,.alloc e,ty,p,af,g⟩)(hw:AS L ops ⟨d,.alloc e,ty,p,af,g⟩=some true)(O:BC b n ⟨d,.alloc e,ty,p,af,g⟩=true)(U:Az E H S)(W:zeroOf P e=some z)
  (h:∀r,Az E H (S++ [[(r,.cells z.cells e (0,0))]])→JL J Q b n (AH L d (.pointer (some ⟨r,0,none⟩))) ds (.inRegion ops rest::k) cs (Ap E H (S++ [[(r,.cells z.cells e (0,0))]]))):
  JL J Q b n L ds (.inRegion ops (i::rest)::k) cs (Ap E H S):=
 JL.alloc K hw O U W fun r A=>by rw [(CF A).1];exact h r (CF A).2
theorem JS.store{A off:Nat}{c:Array Value}(j:Nat)(U:ops[i]? =some ⟨d,.store t x y,ty,p,af,g⟩)(hw:AS L ops ⟨d,.store t x y,ty,p,af,g⟩=some true)(W:BC b n ⟨d,.store t x y,ty,p,af,g⟩=true)(Z:Az E H S)
  (aa:ev L x=some (.pointer (some ⟨A,off,none⟩))) (ab:ev L y=some v) (ac:Bf P t=some v.cells.size) (ae:∀u∈v.cells.toList,Bs u=true) (K:S[j]? =some [(A,.cells c e (0,0))]) (hle:off+v.cells.size≤c.size)
  (h:Az E H (S.set j [(A,.cells (AL c off v.cells.toList) e (0,0))])→JL J Q b n (AH L d undef) ds (.inRegion ops rest::k) cs (Ap E H (S.set j [(A,.cells (AL c off v.cells.toList) e (0,0))]))):
  JL J Q b n L ds (.inRegion ops (i::rest)::k) cs (Ap E H S):=by
 obtain⟨ag,ah⟩:=DR Z K;rw [ag];refine JL.store (S.set j []).flatten.length U hw W ah aa ab ac ae (c:=c) (e:=e) (by simp) hle fun O=>?_;have ai:((S.set j []).flatten++ [(A,Obj.cells c e (0,0))]).set (S.set j []).flatten.length (A,.cells (AL c off v.cells.toList) e (0,0))=(S.set j []).flatten++ [(A,.cells (AL c off v.cells.toList) e (0,0))]:=Ft _ _ _ _;rw [ai] at O ⊢;obtain⟨aj,ak⟩:=ES K O;rw [aj];exact h ak
theorem JS.drop{todo:List Item}{seg:Seg}(j:Nat)(U:Az E H S)(A:S[j]? =some seg)(h:Az E H (S.set j [])→JL J Q b n L ds todo cs (Ap E H (S.set j []))):JL J Q b n L ds todo cs (Ap E H S):=by
 obtain⟨W,K⟩:=DR U A;rw [W];have Z:Nd E H ((S.set j []).flatten++ []):=by rw [List.append_nil];exact JL.Fs.Nd.left K
 obtain⟨O,aa⟩:=ES (seg':= []) A Z;refine JL.drop (S.set j []).flatten (fun q ab=>List.mem_iff_getElem?.1 (List.mem_append_left _ ab)) K ?_;have ac:(S.set j []).flatten++ []=(S.set j []).flatten:=List.append_nil _;rw [ac] at O;rw [O];exact h aa
theorem JS.Bi{todo:List Item}{A:Nat}{c:Array Value}{f:Nat×Nat}(j:Nat)(O:Az E H S)(U:S[j]? =some [(A,.cells c e f)])
  (h:∀E',Le E E'→At E' A 0 c.toList→Az E' H (S.set j [])→JL J Q b n L ds todo cs (Ap E' H (S.set j []))):JL J Q b n L ds todo cs (Ap E H S):=by
 obtain⟨W,Z⟩:=DR O U;rw [W];have aa:((S.set j []).flatten++ [(A,Obj.cells c e f)])[(S.set j []).flatten.length]? =some (A,Obj.cells c e f):=by simp
 refine JL.freeze (S.set j []).flatten.length Z aa fun E' hle ab K=>?_;have ac:((S.set j []).flatten++ [(A,Obj.cells c e f)]).eraseIdx (S.set j []).flatten.length=(S.set j []).flatten:=by rw [List.eraseIdx_append_of_length_le (Nat.le_refl _)];simp
 rw [ac] at K ⊢;exact h E' hle ⟨_,_,_,ab,fun i w hi=>by simpa using hi⟩ K
theorem JS.BA{α:Type}{pp:Rp α}{todo:List Item}{a:Option Addr}{c:Nat}{seg:Seg}{xs:List α}(j:Nat)(K:OL e pp E a c seg xs)(ae:Az E H S)(ag:S[j]? =some seg)
  (h:∀E',Le E E'→Ar pp E' a c xs→Az E' H (S.set j [])→JL J Q b n L ds todo cs (Ap E' H (S.set j []))):JL J Q b n L ds todo cs (Ap E H S):=by
 obtain⟨wss,K,Z,aa⟩:=K;have ah:∀ad:Addr,a=some ad→ad.spot=none:=fun ad O=>by
  rcases K with⟨A,_⟩ | ⟨ab,f,A,_⟩
  ·rw [A] at O;cases O
  ·rw [A] at O;cases O;rfl
 obtain⟨A,ai⟩:=DR ae ag;rw [A];refine JL.OQ K ai fun E' hle aj ak=>h E' hle ?_ ak;obtain⟨al,am,U,an,av,W⟩:=aj;obtain⟨rfl,-,rfl⟩:a=al∧xs.length=xs.length∧c=am:=by
  simp only [Value.slice.injEq] at U;exact⟨U.1,rfl,U.2.2⟩
 refine⟨an,?_⟩;rcases W with W | ⟨ab,off,f,ao,fr,ap,aq,ar⟩
 ·exact .inl ⟨List.eq_nil_of_length_eq_zero W,ah⟩
 ·refine .inr ⟨ab,off,ap,fun i x ac=>?_⟩;have au:i<wss.length:=by rw [Z];exact(List.getElem?_eq_some_iff.1 ac).1
  have hw:=List.getElem?_eq_getElem au;refine⟨wss[i],pp.mono hle (aa i x _ ac hw),f,ao,fr,aq,fun m w hm=>?_⟩;rw [Nat.add_assoc];exact ar _ w (Gb (Fq Z aa) hw m w hm)
theorem NH{α:Type}{pp:Rp α}{wss:List (List Value)}{xs:List α}{x:α}{ws:List Value}(K:wss.length=xs.length)(h:∀(i:Nat) x ws,xs[i]? =some x→wss[i]? =some ws→pp.r E ws x)(O:pp.r E ws x):
  ∀(i:Nat) y us,(xs++ [x])[i]? =some y→(wss++ [ws])[i]? =some us→pp.r E us y:=by
 intro i y us A hu;rcases Nat.lt_or_ge i xs.length with hi | hi
 ·rw [List.getElem?_append_left hi] at A;rw [List.getElem?_append_left (by omega)] at hu;exact h i y us A hu
 ·rw [List.getElem?_append_right hi] at A;rw [List.getElem?_append_right (by omega),K] at hu;cases hm:i - xs.length with
  | zero=>rw [hm] at A hu;simp at A hu;subst A hu;exact O
  | succ m=>rw [hm] at A;simp at A
theorem JS.HR{α:Type}{pp:Rp α}{t1 t2:TypeId}{O c:Nat}{a:Option Addr}{seg:Seg}{xs:List α}{xv:α}{ac:Nat}{d1:Tmp}{ats:Array TypeId}{U:TypeId}{W:String}{Z:Array Edge}{g':Option (Nat×Bool)}{z:Value}(j:Nat)
  (ah:ops[i]? =some ⟨some d1,.buildSlice t2 1 #[(0,y)],U,W,Z,g'⟩) (hw:AS L ops ⟨some d1,.buildSlice t2 1 #[(0,y)],U,W,Z,g'⟩=some true) (ai:BC b n ⟨some d1,.buildSlice t2 1 #[(0,y)],U,W,Z,g'⟩=true)
  (aj:ops[ac]? =some ⟨d,.call ⟨.builtin .append,#[x,.tmp d1],ats⟩,ty,p,af,g⟩) (ak:∀w,AS (AH L (some d1) w) ops ⟨d,.call ⟨.builtin .append,#[x,.tmp d1],ats⟩,ty,p,af,g⟩=some true) (al:BC b n ⟨d,.call ⟨.builtin .append,#[x,.tmp d1],ats⟩,ty,p,af,g⟩=true)
  (am:∀w,ev (AH L (some d1) w) x=some (.slice a xs.length c)) (an:ev L y=some v) (ao:ats[0]? =some t) (ap:ats[1]? =some t1) (ht:P.underlying t=some (.slice e)) (aq:P.underlying t1=some (.slice e)) (ar:P.underlying t2=some (.slice e)) (au:Bf P e=some pp.n) (hb:CH P e=some O) (av:zeroOf P e=some z) (aw:z.cells.size=pp.n)
  (ay:0<O) (az:O≤64) (aA:0<pp.n) (aB:pp.n≤64) (aC:xs.length+1≤2 ^ 40) (aa:OL e pp E a c seg xs) (ab:pp.r E v.cells.toList xv) (aD:Az E H S) (ae:S[j]? =some seg)
  (h:∀w A K seg',OL e pp E A K seg' (xs++ [xv])→Az E H (S.set j seg')→JL J Q b n (AH (AH L (some d1) w) d (.slice A (xs++ [xv]).length K)) ds (.inRegion ops rest::k) cs (Ap E H (S.set j seg'))):
  JL J Q b n L ds (.inRegion ops (i::ac::rest)::k) cs (Ap E H S):=by
 obtain⟨wss,aa,ag,aE⟩:=aa;obtain⟨aF,aG⟩:=DR aD ae;rw [aF];have aH:v.cells.size=pp.n:=by simpa using pp.len ab
 refine JL.HR ah hw ai aj ak al am an ao ap ht aq ar au hb av aw ay az aH aA aB aC (pp.one ab) aa aG fun w A K aI aJ aK=>?_;obtain⟨aL,aM⟩:=ES ae aK;rw [aL];have hlen:(xs++ [xv]).length=xs.length+1:=by simp
 have:=h w A K aI ⟨wss++ [v.cells.toList],by rw [hlen,List.flatten_append];simpa using aJ,by simp [ag],NH ag aE ab⟩ aM;rw [hlen] at this;exact this
theorem JS.BH{α:Type}{pp:Rp α}{a:Option Addr}{c:Nat}{xs:List α}{xv:α}{m:Int}(O:Ar pp E a c xs)(hm:ix xs m=some xv)
  (U:ops[i]? =some ⟨d,.indexAddr t x y,ty,p,af,g⟩) (hw:AS L ops ⟨d,.indexAddr t x y,ty,p,af,g⟩=some true) (W:BC b n ⟨d,.indexAddr t x y,ty,p,af,g⟩=true)
  (Z:ev L x=some (.slice a xs.length c)) (aa:ev L y=some (.int kd m)) (ht:P.underlying t=some (.slice e)) (ab:Bf P e=some pp.n)
  (h:∀A o ws,pp.r E ws xv→At E A o ws→JL J Q b n (AH L d (.pointer (some ⟨A,o,none⟩))) ds (.inRegion ops rest::k) cs (Ap E H S)):
  JL J Q b n L ds (.inRegion ops (i::rest)::k) cs (Ap E H S):=by
 obtain⟨m,rfl,hm⟩:=EP hm;have ac:m<xs.length:=(List.getElem?_eq_some_iff.1 hm).1;obtain⟨ai,⟨rfl,_⟩ | ⟨A,off,rfl,ae⟩⟩:=O
 ·simp at ac
 obtain⟨ws,ag,ah⟩:=ae m xv hm;refine JL.y (v:= .pointer (some ⟨A,off+m*pp.n,none⟩)) U hw W (fun ρ K=>?_) (h A _ ws ag ah);have:=Yl.HY (P:=P) (s:=Ap E H S) (d:=d) (ty:=ty) (p:=p) (af:=af) (g:=g) ht ab (K x _ Z) (K y _ aa) ⟨by omega,by omega⟩;rw [Ba rfl] at this;simpa using this
theorem At.MP{A o j:Nat}{ws:List Value}{w:Value}(h:At E A o ws)(K:ws[j]? =some w):(Ap E H S).cell? ⟨A,o+j,none⟩=some w:=h.cell K
theorem At.Q6{A o:Nat}{ws:List Value}(h:At E A o ws):∀j v,ws[j]? =some v→(Ap E H S).cell? (Addr.add ⟨A,o,none⟩ j)=some v:=h.cells
theorem JL.join{todo:List Item}(I:Env→St→Prop){c:Code}(A:∀L s,I L s→JL J Q b n L ds todo cs s)(h:(∀L s,I L s→JL J Q b n L ds todo cs s)→JL J Q b n L ds (.code c::todo) cs s):JL J Q b n L ds (.code c::todo) cs s:=h A
theorem JL.By{A:List Nat}{todo:List Item}(l:List Nat)(I:Env→St→Prop)(K:∀L s,I L s→JL J Q b n L ds (.inRegion ops l::todo) cs s)(h:(∀L s,I L s→JL J Q b n L ds (.inRegion ops l::todo) cs s)→JL J Q b n L ds (.inRegion ops A::todo) cs s):JL J Q b n L ds (.inRegion ops A::todo) cs s:=h K
theorem JL.Bg{K A:Type}{c:Code}{body:K→Option (AU K A)}{f:Nat}{O:K}{a:A}(U:iter body f O=some a)(I:Env→St→K→Prop)(Z:I L s O)
  (round:∀L s x,I L s x→(∀W,body x=some (.done W)→W=a)→(∃st,body x=some st)→(∀L' s' x',I L' s' x'→body x=some (.more x')→JL J Q b n L' ds (.inLoop c::k) cs s')→JL J Q b n L ds (.code c:: .inLoop c::k) cs s):
  JL J Q b n L ds (.code (.loop c)::k) cs s:=by
 refine JL.Gq ?_
 induction f generalizing L s O with
 | zero=>cases U
 | succ f aa=>
  refine round L s O Z (fun W h=>Kt U h) (KG U) fun L' s' x' ab hb=>JL.again (aa (Kz U hb) ab)
def Au(J:Judge P)(f:FuncId)(args:List Value)(E:LH)(B:Seg)(R:Value→LH→Seg→Prop):Prop:=
 ∀H,Nd E H B→Ch J f args.toArray (mk E H B) (fun v s'=>∃E' B',Le E E'∧R v E' B'∧Nd E' H B'∧s'=mk E' H B')
theorem Au.enter{f:FuncId}{fn:Func}{c:Code}{vs:List Value}{B:Seg}{R:Value→LH→Seg→Prop}(K:P.funcs[f]? =some fn)(hb:fn.body=some c)(O:vs.length≤fn.ntmps)
  (h:∀(Q:Goroutine→St→Prop) (A:Frame) (cs:List Frame) (H:LH),Az E H [B]→(∀v E' S' B',Le E E'→S'.flatten=B'→R v E' B'→Az E' H S'→J.ok Q (G (A.finish v) cs) (Ap E' H S'))→JL J Q (base f) fn.ntmps (Ds 0 vs) [] [.code c] (A::cs) (Ap E H [B])):Au J f vs E B R:=fun H U=>
 Ch.enter K hb O fun Q A cs W=>by
  have Z:mk E H B=Ap E H [B]:=by unfold Ap;simp
  rw [Z];exact h Q A cs H (by unfold Az;simpa using U) fun v E' S' B' hle aa ab ac=>by
   subst aa;exact W v _ ⟨E',S'.flatten,hle,ab,ac,rfl⟩
theorem Au.mono{f:FuncId}{vs:List Value}{B:Seg}{R A:Value→LH→Seg→Prop}(h:Au J f vs E B R)(O:∀v E' B',Le E E'→R v E' B'→A v E' B'):Au J f vs E B A:=fun H U=>
 (h H U).mono fun v s' ⟨E',B',K,W,Z,aa⟩=>⟨E',B',K,O v E' B' K W,Z,aa⟩
theorem Dl{H:LH}:∀{A B:List (Nat×Obj)},AT (A++B) H=AT A (AT B H)
 | [],_=>rfl
 | (c,o)::A,B=>by
  funext x
  simp only [List.cons_append,AT]
  split
  ·rfl
  ·rw [Dl]
theorem GL{H:LH}{x:Nat}:∀{B:List (Nat×Obj)},(∀p∈B,p.1≠x)→AT B H x=H x
 | [],_=>rfl
 | (c,u)::B,A=>by
  have K:x≠c:=fun e=>A (c,u) (by simp) e.symm
  simp only [AT,if_neg K]
  exact GL fun p O=>A p (List.mem_cons_of_mem _ O)
theorem Nd.front{A B:List (Nat×Obj)}(h:Nd E H (A++B)):Nd E (AT B H) A:=by
 rw [Nd.iff] at h ⊢;obtain⟨K,U⟩:=h;rw [List.map_append,List.nodup_append] at K;refine⟨K.1,fun q O=>⟨(U q (List.mem_append_left _ O)).1,?_⟩⟩;rw [GL fun r W e=>K.2.2 q.1 (List.mem_map_of_mem O) r.1 (List.mem_map_of_mem W) e.symm];exact(U q (List.mem_append_left _ O)).2
theorem Nd.glue{A B:List (Nat×Obj)}(h:Nd E (AT B H) A)(U:Nd E H B):Nd E H (A++B):=by
 have W:=U;rw [Nd.iff] at h U ⊢;rw [List.map_append,List.nodup_append];have key:∀q∈A,∀r∈B,q.1≠r.1:=fun q K r O e=>by
  have:=(h.2 q K).2;rw [e] at this;obtain⟨i,hi⟩:=W.mem (b:=r.1) (o:=r.2) O;rw [Fp W hi] at this;cases this
 refine⟨⟨h.1,U.1,fun x Z y aa e=>?_⟩,fun q K=>?_⟩
 ·obtain⟨q,K,rfl⟩:=List.mem_map.1 Z;obtain⟨r,O,rfl⟩:=List.mem_map.1 aa;exact key q K r O e
 ·rcases List.mem_append.1 K with K | K
  ·refine⟨(h.2 q K).1,?_⟩;have:=(h.2 q K).2
   rwa [GL fun r O e=>key q K r O e.symm] at this
  ·exact U.2 q K
theorem JS.Jl{f:FuncId}{args:Array Operand}{ats:Array TypeId}{vs:List Value}{seg:Seg}{R:Value→LH→Seg→Prop}(j:Nat)
  (aa:Au J f vs E seg R) (ab:ops[i]? =some ⟨d,.call ⟨.value (.func f),args,ats⟩,ty,p,af,g⟩) (hw:AS L ops ⟨d,.call ⟨.value (.func f),args,ats⟩,ty,p,af,g⟩=some true) (ac:((b.kind != .early)&&A2 n d)=true) (hb:Cd P f=true)
  (ae:evs L args.toList=some vs) (A:Az E H S) (K:S[j]? =some seg) (ag:∀v E' seg',Le E E'→R v E' seg'→Az E' H (S.set j seg')→JL J Q b n (AH L d v) ds (.inRegion ops rest::k) cs (Ap E' H (S.set j seg'))):
  JL J Q b n L ds (.inRegion ops (i::rest)::k) cs (Ap E H S):=by
 have O:S.flatten.Perm (seg++(S.set j []).flatten):=(Co (seg':=seg) K).1.trans List.perm_append_comm;have U:Nd E H (seg++(S.set j []).flatten):=Nd.perm A O;have ah:Ap E H S=mk E (AT (S.set j []).flatten H) seg:=by
  rw [show Ap E H S=mk E H S.flatten from rfl,CW A O];unfold mk;rw [Dl]
 rw [ah];refine JL.RN ab hw ac hb ae (aa _ (Nd.front U)) ?_;rintro v s' ⟨E',B',hle,ai,aj,rfl⟩;have ak:mk E' (AT (S.set j []).flatten H) B'=mk E' H (B'++(S.set j []).flatten):=by unfold mk;rw [Dl]
 have al:Nd E H (S.set j []).flatten:=by
  have:=U;rw [Nd.iff] at this ⊢;rw [List.map_append,List.nodup_append] at this;exact⟨this.1.2.1,fun q am=>this.2 q (List.mem_append_right _ am)⟩
 refine JL.EZ rfl fun⟨w,an⟩=>?_;have ao:Nd E' H (S.set j []).flatten:=al.grow fun x ap=>by
  have aq:=an.d x ap;have ar:AT B' (AT (S.set j []).flatten H) x=none:=aq;exact(D5 ar).1
 have W:Nd E' H (B'++(S.set j []).flatten):=Nd.glue aj ao;rw [ak];have Z:(B'++(S.set j []).flatten).Perm (S.set j B').flatten:=List.perm_append_comm.trans (Co K).2.symm;rw [CW W Z];exact ag v E' B' hle ai (Nd.perm W Z)
theorem JS.call{f:FuncId}{args:Array Operand}{ats:Array TypeId}{vs:List Value}{R:Value→LH→Seg→Prop}
  (O:Au J f vs E [] R) (U:ops[i]? =some ⟨d,.call ⟨.value (.func f),args,ats⟩,ty,p,af,g⟩) (hw:AS L ops ⟨d,.call ⟨.value (.func f),args,ats⟩,ty,p,af,g⟩=some true) (W:((b.kind != .early)&&A2 n d)=true) (hb:Cd P f=true)
  (Z:evs L args.toList=some vs) (A:Az E H S) (aa:∀v E' seg',Le E E'→R v E' seg'→Az E' H (S++ [seg'])→JL J Q b n (AH L d v) ds (.inRegion ops rest::k) cs (Ap E' H (S++ [seg']))):
  JL J Q b n L ds (.inRegion ops (i::rest)::k) cs (Ap E H S):=by
 have ab:Ap E H S=Ap E H (S++ [[]]):=by unfold Ap;simp
 rw [ab];refine JS.Jl S.length O U hw W hb Z (by unfold Az at A ⊢;rw [D7,List.append_nil];exact A) (by simp) fun v E' seg' hle ac K=>?_;have ae:(S++ [[]]).set S.length seg'=S++ [seg']:=Ft _ _ _ _;rw [ae] at K ⊢;exact aa v E' seg' hle ac K
theorem JS.split{todo:List Item}{S':List Seg}(A:S'.flatten=S.flatten)(K:Az E H S)(h:Az E H S'→JL J Q b n L ds todo cs (Ap E H S')):JL J Q b n L ds todo cs (Ap E H S):=by
 unfold Ap Az at*;rw [A] at h;exact h K
end
end Pal
namespace Pal
open Go Go.Conc
def Ld(P:Program)(t:TypeId)(a:Addr)(s:St)(v:Value):Prop:=lp P (loadVar t a) s (fun u s'=>u=v∧s'=s) (fun _ _=>False)
theorem Ld.many{P:Program}{t:TypeId}{a:Addr}{s:St}{vs:List Value}(ht:Cm P t=some true)(A:Bf P t=some vs.length)(h:∀j v,vs[j]? =some v→s.cell? (a.add j)=some v):Ld P t a s (.agg vs.toArray):=Kb ht A h ⟨rfl,rfl⟩
def RV(P:Program)(L:Env)(s:St):List ResultVar→List Value→Prop
 | [],[]=>True
 | .tmp t::rs,v::vs=>look L t=some v∧RV P L s rs vs
 | .cell a t::rs,v::vs=>(∃ad,look L a=some (.pointer (some ad))∧Ld P t ad s v)∧RV P L s rs vs
 | _,_=>False
def HN:List Value→Value
 | [v]=>v
 | vs=> .tuple vs.toArray
theorem NU(vs:List Value):(if h:vs.toArray.size=1 then vs.toArray[0] else Value.tuple vs.toArray)=HN vs:=by
 match vs with
 | []=>rfl
 | [v]=>rfl
 | a::b::c=>simp [HN]
theorem Bl.list{P:Program}{f:FuncId}{fn:Func}{n:Nat}{L:Env}{s:St}{rs:List ResultVar}{vs:List Value}(W:P.funcs[f]? =some fn)(Z:fn.results.toList=rs)(h:RV P L s rs vs):Bl P f L n s (HN vs):=by
 refine⟨fn,W,fun T O=>?_⟩;unfold results;rw [Array.mapM_eq_mapM_toList,Z];have key:∀(rs:List ResultVar) (acc vs:List Value) {Q:List Value→St→Prop} {X:Halt→St→Prop},RV P L s rs vs→Q (acc.reverse++vs) s→lp P (List.mapM.loop (m:=Sem) (fun r=>match r with
   | .tmp t=>pure (T.getD t undef)
   | .cell a t=>do loadVar t (← asAddr (T.getD a undef))) rs acc) s Q X:=by
  intro rs
  induction rs with
  | nil=>
   intro acc vs Q X h k;cases vs with
   | nil=>simp only [List.append_nil] at k;exact k
   | cons v vs=>cases h
  | cons r rs U=>
   intro acc vs Q X h k;cases vs with
   | nil=>cases r <;> cases h
   | cons v vs=>
    cases r with
    | tmp t=>
     obtain⟨A,K⟩:=h;have:=O.at_ t v A;simp only [List.mapM.loop];rw [this];exact U (v::acc) vs K (by simpa using k)
    | cell a t=>
     obtain⟨⟨ad,A,aa⟩,K⟩:=h;have:=O.at_ a _ A;simp only [List.mapM.loop];rw [this];refine AF _ _ (BV _ (show lp P (loadVar t ad) s _ _ from aa) ?_ (fun _ _ h=>h.elim));rintro u s' ⟨rfl,rfl⟩;exact U (u::acc) vs K (by simpa using k)
 refine AF _ _ ?_;refine AF (x:=List.mapM.loop (m:=Sem) _ rs []) (f:=fun r=>pure r.toArray) ?_;refine key rs [] vs h ?_;simp only [List.reverse_nil,List.nil_append,lp,pure];exact⟨NU vs,trivial⟩
section
variable {P:Program}{J:Judge P}{Q:Goroutine→St→Prop}{g:Goroutine}{E H:LH}{S:List Seg}
theorem FM{seg:Seg}(j:Nat)(W:Az E H S)(O:S[j]? =some seg)(h:Az E H (S.set j [])→J.ok Q g (Ap E H (S.set j []))):J.ok Q g (Ap E H S):=by
 obtain⟨Z,A⟩:=DR W O;have aa:Nd E H ((S.set j []).flatten++ []):=by rw [List.append_nil];exact JL.Fs.Nd.left A
 obtain⟨ag,ab⟩:=ES (seg':= []) O aa;refine J.ghost (s₀:=Ap E H (S.set j [])) ⟨fun _ _ h=>h,fun x o ac=>?_,fun _ _ h=> .inl h,rfl⟩ (h ab);have U:AT (S.set j []).flatten H x=some o:=ac;show(Ap E H S).H x=some o;rw [Z];show AT ((S.set j []).flatten++seg) H x=some o;rw [show AT ((S.set j []).flatten++seg) H=AT (seg++(S.set j []).flatten) H from GJ A List.perm_append_comm,Dl];by_cases hm:∃p∈seg,p.1=x
 ·exfalso;obtain⟨p,K,e⟩:=hm;have ae:=Nd.front (Nd.perm A List.perm_append_comm);have:=((Nd.iff.1 ae).2 p K).2;rw [e,U] at this;cases this
 ·rw [GL fun p K e=>hm ⟨p,K,e⟩];exact U
end
section
variable {P:Program}{J:Judge P}{Q:Goroutine→St→Prop}{b:Frame}{n:Nat}{ds:List Deferred}{ops:Array Oper}{k:List Item}{cs:List Frame}{L:Env}{s:St}{E E' H:LH}{S:List Seg}
variable {d:Option Tmp}{x y:Operand}{t u ty e:TypeId}{p:String}{af:Array Edge}{g:Option (Nat×Bool)}{v:Value}{i:Nat}{rest:List Nat}{kd:IntKind}
theorem KD{ρ:Operand→Value}{len:Nat}{A:Array (Nat×Operand)}:execOp ρ ⟨d,.buildSlice t len A,ty,p,af,g⟩=(do pure (Next.value (← Instr.buildSlice t len (A.map fun(j,x)=>(j,ρ x))))):=by
 simp only [execOp]
theorem NW(v:Array Value)(off:Nat)(c:Array Value):v.zipIdx.foldl (fun cs (x,j)=>cs.setIfInBounds (off+j) x) c=AL c off v.toList:=by
 rw [← Array.foldl_toList,Array.toList_zipIdx];have key:∀(l:List Value) (st:Nat) (c:Array Value),List.foldl (fun cs (p:Value×Nat)=>cs.setIfInBounds (off+p.2) p.1) c (l.zipIdx st)=AL c (off+st) l:=by
  intro l
  induction l with
  | nil=>intro st c;rfl
  | cons x l A=>intro st c;simp only [List.zipIdx_cons,List.foldl_cons,AL];rw [A];rfl
 exact key v.toList 0 c
def Gv(place:Nat→Option (Nat×Nat))(cells:Array Value):List (Nat×Value)→Option (Array Value)
 | []=>some cells
 | (i,v)::rest=>match place i with
  | none=>none
  | some (off,size)=>if v.cells.size=size∧off+v.cells.size≤cells.size then Gv place (AL cells off v.cells.toList) rest else none
theorem fill_eq{place:Nat→Option (Nat×Nat)}:∀{vs:List (Nat×Value)} {cells:Array Value},Instr.fill place cells vs=Gv place cells vs
 | [],_=>rfl
 | (i,v)::rest,cells=>by
  simp only [Instr.fill,Gv]
  cases place i with
  | none=>rfl
  | some q=>
   obtain⟨off,size⟩:=q
   simp only
   by_cases h:v.cells.size=size∧off+v.cells.size≤cells.size
   ·rw [if_pos h,if_neg (by simp only [Bool.or_eq_true,decide_eq_true_eq,ne_eq];omega),fill_eq,NW]
   ·rw [if_neg h,if_pos (by simp only [Bool.or_eq_true,decide_eq_true_eq,ne_eq];omega)]
theorem K8{n:Nat}:∀(vs:List Value) (st:Nat) (cells:Array Value),(∀v∈vs,v.cells.size=n)→cells.size=(st+vs.length)*n→
  ∃K,Gv (fun i=>some (i*n,n)) cells ((vs.zipIdx st).map fun q=>(q.2,q.1))=some K∧K.toList=cells.toList.take (st*n)++(vs.map (·.cells.toList)).flatten
 | [],st,cells,_,hs=>⟨cells,rfl,by simp only [List.length_nil,Nat.add_zero] at hs;simp [← hs,List.take_of_length_le]⟩
 | v::vs,st,cells,O,hs=>by
  have A:=O v (by simp)
  have hle:st*n+n≤cells.size:=by
   rw [hs,List.length_cons];have:(st+1)*n≤(st+(vs.length+1))*n:=Nat.mul_le_mul_right _ (by omega);rw [Nat.succ_mul] at this;exact this
  obtain⟨U,W,Z⟩:=K8 vs (st+1) (AL cells (st*n) v.cells.toList) (fun u hu=>O u (List.mem_cons_of_mem _ hu)) (by rw [IJ,hs,List.length_cons];congr 1;omega);refine⟨U,?_,?_⟩
  ·simp only [List.zipIdx_cons,List.map_cons,Gv];rw [if_pos ⟨A,by omega⟩];exact W
  ·rw [Z,Nat.succ_mul];have:=J5 cells (st*n) v.cells.toList (by simp [A];omega);rw [show v.cells.toList.length=n by simp [A]] at this;rw [this];simp
def FB{α:Type}(pp:Rp α)(E:LH):List α→List Value→Prop
 | [],[]=>True
 | x::xs,v::vs=>pp.r E v.cells.toList x∧FB pp E xs vs
 | _,_=>False
theorem FB.at{E:LH}{α:Type}{pp:Rp α}:∀{xs:List α} {vs:List Value},FB pp E xs vs→∀(i:Nat) x v,xs[i]? =some x→vs[i]? =some v→pp.r E v.cells.toList x
 | [],_,_,_,_,_,h,_=>by simp at h
 | _::_,[],h,_,_,_,_,_=>h.elim
 | x::xs,v::vs,h,0,y,u,A,hu=>by simp at A hu;subst A hu;exact h.1
 | x::xs,v::vs,h,i+1,y,u,A,hu=>FB.at h.2 i y u (by simpa using A) (by simpa using hu)
theorem Jb{E0:LH}{ρ:Operand→Value}{K:Next→St→Prop}(aj:Cw L ρ){α:Type}{pp:Rp α}{len:Nat}{W:Array (Nat×Operand)}(vs:List Value){z:Value}(xs:List α)
  (ht:P.underlying t=some (.slice e)) (ak:Bf P e=some pp.n) (al:zeroOf P e=some z) (am:decide (0<len*pp.n∧len*pp.n≤2 ^ 24)=true)
  (an:W.toList.mapM (fun q=>(ev L q.2).map fun v=>(q.1,v))=some ((vs.zipIdx 0).map fun q=>(q.2,q.1)))
  (O:vs.length=len) (U:xs.length=len) (ao:FB pp E0 xs vs) (ap:Az E H S)
  (h:∀r seg,OL e pp E0 (some ⟨r,0,none⟩) len seg xs→Az E H (S++ [seg])→K (.value (.slice (some ⟨r,0,none⟩) xs.length len)) (Ap E H (S++ [seg]))):
  lp P (execOp ρ ⟨d,.buildSlice t len W,ty,p,af,g⟩) (Ap E H S) K (fun _ _=>False):=by
 have ac:=ao.at;have aq:(W.map fun(j,x)=>(j,ρ x)).toList=(vs.zipIdx 0).map fun q=>(q.2,q.1):=by
  have key:∀(l:List (Nat×Operand)) (vs:List (Nat×Value)),l.mapM (fun q=>(ev L q.2).map fun v=>(q.1,v))=some vs→l.map (fun(j,x)=>(j,ρ x))=vs:=by
   intro l
   induction l with
   | nil=>intro vs h;simp at h;subst h;rfl
   | cons q l Z=>
    intro vs h;simp only [List.mapM_cons,bind] at h;cases aa:ev L q.2 with
    | none=>rw [aa] at h;simp at h
    | some w=>
     rw [aa] at h;simp only [Option.map_some,Option.bind_some] at h;obtain⟨ar,au,ae⟩:=bind_some h;simp at ae;subst ae;simp [Z ar au,aj _ _ aa]
  rw [Array.toList_map];exact key _ _ an
 have ag:∀v∈vs,v.cells.size=pp.n:=fun v A=>by
  obtain⟨i,hi⟩:=List.mem_iff_getElem?.1 A;have av:i<xs.length:=by rw [U,← O];exact(List.getElem?_eq_some_iff.1 hi).1
  simpa using pp.len (ac i _ v (List.getElem?_eq_getElem av) hi)
 rw [KD];refine AF _ _ ?_;unfold Instr.buildSlice;refine AF _ _ (BU ht ?_);refine AF _ _ (CM ak ?_);have az:=of_decide_eq_true am;rw [if_neg (by omega),if_neg (by omega)];refine AF (x:=zeroValue e) _ (Dy al ?_);rw [Eo,aq];obtain⟨cells,aw,ab⟩:=K8 vs 0 ((Array.range (len*pp.n)).map (z.cells[· % z.cells.size]!)) ag (by simp [O]);simp only [fill_eq,aw];simp only [Nat.zero_mul,List.take_zero,List.nil_append] at ab;refine AF _ _ (Es ap fun r ah=>?_);rw [(CF ah).1];have ai:cells.size=len*pp.n:=by
  have:cells.toList.length=len*pp.n:=by
   rw [ab];have:∀(vs:List Value),(∀v∈vs,v.cells.size=pp.n)→(vs.map (·.cells.toList)).flatten.length=vs.length*pp.n:=by
    intro vs
    induction vs with
    | nil=>intro _;simp
    | cons v vs Z=>intro h;rw [List.map_cons,List.flatten_cons,List.length_append,Z fun w hw=>h w (List.mem_cons_of_mem _ hw),List.length_cons,Nat.succ_mul,Nat.add_comm];simp [h v (by simp)]
   rw [this vs ag,O]
  simpa using this
 have:=h r [(r,.cells cells e (0,0))] ⟨vs.map (·.cells.toList),.inr ⟨r,cells,rfl,rfl,ai,by omega,by rw [← ab,List.take_of_length_le (by simp [ai,U])]⟩,by simp [O,U],fun i x ws ay hw=>by
  rw [List.getElem?_map] at hw
  cases A:vs[i]? with
  | none=>rw [A] at hw;cases hw
  | some v=>rw [A] at hw;cases hw;exact ac i x v ay A⟩ (CF ah).2
 rw [U] at this;exact this
theorem JS.lit{α:Type}{pp:Rp α}{len:Nat}{A:Array (Nat×Operand)}(vs:List Value){z:Value}(xs:List α)
  (K:ops[i]? =some ⟨d,.buildSlice t len A,ty,p,af,g⟩) (hw:AS L ops ⟨d,.buildSlice t len A,ty,p,af,g⟩=some true) (O:BC b n ⟨d,.buildSlice t len A,ty,p,af,g⟩=true)
  (ht:P.underlying t=some (.slice e)) (U:Bf P e=some pp.n) (W:zeroOf P e=some z) (Z:decide (0<len*pp.n∧len*pp.n≤2 ^ 24)=true)
  (aa:A.toList.mapM (fun q=>(ev L q.2).map fun v=>(q.1,v))=some ((vs.zipIdx 0).map fun q=>(q.2,q.1)))
  (ab:vs.length=len) (ac:xs.length=len) (ae:FB pp E xs vs) (ag:Az E H S)
  (h:∀r seg,OL e pp E (some ⟨r,0,none⟩) len seg xs→Az E H (S++ [seg])→JL J Q b n (AH L d (.slice (some ⟨r,0,none⟩) xs.length len)) ds (.inRegion ops rest::k) cs (Ap E H (S++ [seg]))):
  JL J Q b n L ds (.inRegion ops (i::rest)::k) cs (Ap E H S):=by
 exact JL.op K hw O fun ρ ah=>Jb ah vs xs ht U W Z aa ab ac ae ag h
theorem OL.get{α:Type}{pp:Rp α}{a:Option Addr}{c:Nat}{seg:Seg}{xs:List α}{m:Nat}{x:α}(Z:OL e pp E a c seg xs)(hm:xs[m]? =some x):
  ∃K f ws,a=some ⟨K,0,none⟩∧seg= [(K,.cells f e (0,0))]∧pp.r E ws x∧(∀j w,ws[j]? =some w→f[m*pp.n+j]? =some w)∧(m+1)*pp.n≤f.size∧
   ∀(x':α) (ws':List Value),pp.r E ws' x'→OL e pp E a c [(K,.cells (AL f (m*pp.n) ws') e (0,0))] (xs.set m x'):=by
 obtain⟨wss,Z,ag,aa⟩:=Z;have ah:m<xs.length:=(List.getElem?_eq_some_iff.1 hm).1;rcases Z with⟨ab,ai,_⟩ | ⟨K,f,ab,ai,ap,aj,ak⟩
 ·omega
 have hw:wss[m]? =some wss[m]:=List.getElem?_eq_getElem (by omega);have al:=Fq ag aa;have hle:(m+1)*pp.n≤xs.length*pp.n:=Nat.mul_le_mul_right _ ah;have au:xs.length*pp.n≤c*pp.n:=Nat.mul_le_mul_right _ aj;refine⟨K,f,wss[m],ab,ai,aa m x _ hm hw,fun j w A=>?_,by omega,fun x' ws' am=>?_⟩
 ·have:=Gb al hw j w A;rw [ak,List.getElem?_take] at this;split at this
  ·simpa using this
  ·cases this
 ·have an:ws'.length=pp.n:=pp.len am;refine⟨wss.set m ws',.inr ⟨K,_,ab,rfl,by rw [IJ];exact ap,by simpa using aj,?_⟩,by simpa using ag,fun i y us W hu=>?_⟩
  ·simp only [List.length_set];have key:∀(wss:List (List Value)) (m:Nat) (hm:m<wss.length),(∀ws∈wss,ws.length=pp.n)→∀j,(wss.set m ws').flatten[j]? =if m*pp.n≤j∧j<(m+1)*pp.n then ws'[j - m*pp.n]? else wss.flatten[j]? :=by
    intro wss
    induction wss with
    | nil=>intro m hm;simp at hm
    | cons us wss ac=>
     intro m hm ao j;have hu:us.length=pp.n:=ao us (by simp);cases m with
     | zero=>
      simp only [List.set_cons_zero,List.flatten_cons,Nat.zero_mul,Nat.zero_le,true_and,Nat.zero_add,Nat.one_mul,Nat.sub_zero];split
      ·rename_i A;rw [List.getElem?_append_left (by omega)]
      ·rename_i A;rw [List.getElem?_append_right (by omega),List.getElem?_append_right (by omega),an,hu]
     | succ m=>
      simp only [List.set_cons_succ,List.flatten_cons];have O:(m+1)*pp.n=m*pp.n+pp.n:=Nat.succ_mul _ _;have ae:(m+1+1)*pp.n=(m+1)*pp.n+pp.n:=Nat.succ_mul _ _;rcases Nat.lt_or_ge j us.length with A | A
      ·rw [List.getElem?_append_left A,List.getElem?_append_left A,if_neg (by omega)]
      ·rw [List.getElem?_append_right A,List.getElem?_append_right A,ac m (by simpa using hm) (fun ws aq=>ao ws (List.mem_cons_of_mem _ aq))];by_cases U:m*pp.n≤j - us.length∧j - us.length<(m+1)*pp.n
       ·rw [if_pos U,if_pos (by omega)];congr 1;omega
       ·rw [if_neg U,if_neg (by omega)]
   have ar:∀(vs:List Value) (c:Array Value) (off:Nat),off+vs.length≤c.size→∀j,(AL c off vs)[j]? =if off≤j∧j<off+vs.length then vs[j - off]? else c[j]? :=by
    intro vs
    induction vs with
    | nil=>intro c off _ j;simp [AL];omega
    | cons w vs ac=>
     intro c off U j;simp only [AL,List.length_cons] at*;rw [ac _ _ (by simp;omega)];by_cases O:j=off
     ·subst O;rw [if_neg (by omega),if_pos (by omega),Nat.sub_self,List.getElem?_cons_zero,Array.getElem?_setIfInBounds_self_of_lt (by omega)]
     ·by_cases ae:off+1≤j∧j<off+1+vs.length
      ·rw [if_pos ae,if_pos (by omega)];have:j - off=(j - (off+1))+1:=by omega
       rw [this];simp
      ·rw [if_neg ae,if_neg (by omega),Array.getElem?_setIfInBounds_ne (by omega)]
   apply List.ext_getElem?;intro j;have O:(m+1)*pp.n=m*pp.n+pp.n:=Nat.succ_mul _ _;have t1:(AL f (m*pp.n) ws').toList[j]? =(AL f (m*pp.n) ws')[j]? :=Array.getElem?_toList;have t2:f.toList[j]? =f[j]? :=Array.getElem?_toList;rw [key wss m (by omega) al,List.getElem?_take,t1,ar ws' f (m*pp.n) (by omega),ak,List.getElem?_take,t2,an];by_cases U:m*pp.n≤j∧j<(m+1)*pp.n
   ·rw [if_pos U,if_pos (by omega),if_pos (by omega)]
   ·rw [if_neg U,if_neg (show ¬(m*pp.n≤j∧j<m*pp.n+pp.n) by omega)]
  ·rw [List.getElem?_set] at W hu;by_cases O:m=i
   ·subst O;rw [if_pos rfl,if_pos ah] at W;rw [if_pos rfl,if_pos (by omega)] at hu;cases W;cases hu;exact am
   ·rw [if_neg O] at hu W;exact aa i y us W hu
end
end Pal
namespace Pal
open Go Go.Conc
section
variable {P:Program}{J:Judge P}{Q:Goroutine→St→Prop}{b:Frame}{n:Nat}{ds:List Deferred}{ops:Array Oper}{k:List Item}{cs:List Frame}{L:Env}{s:St}{E E' H:LH}{S:List Seg}
variable {d:Option Tmp}{x y:Operand}{t u ty e:TypeId}{p:String}{af:Array Edge}{g:Option (Nat×Bool)}{v:Value}{i:Nat}{rest:List Nat}{kd:IntKind}
theorem JS.perm{todo:List Item}{S':List Seg}(A:S.flatten.Perm S'.flatten)(K:Az E H S)(h:Az E H S'→JL J Q b n L ds todo cs (Ap E H S')):JL J Q b n L ds todo cs (Ap E H S):=by
 have O:Az E H S':=Nd.perm K A;rw [show Ap E H S=Ap E H S' from CW K A];exact h O
theorem JS.part{todo:List Item}{A B:Seg}(j:Nat)(K:S[j]? =some (A++B))(O:Az E H S)(h:Az E H (S.set j A++ [B])→JL J Q b n L ds todo cs (Ap E H (S.set j A++ [B]))):JL J Q b n L ds todo cs (Ap E H S):=by
 refine JS.perm ?_ O h;have U:=(Co (seg':=A) K).1;have W:=(Co (seg':=A) K).2;rw [D7];refine U.trans ?_;have Z:=W.symm.append_right B
 rwa [List.append_assoc] at Z
theorem JS.swap{todo:List Item}{A B:Seg}(j l:Nat)(O:S[j]? =some A)(U:S[l]? =some B)(Z:(j==l)=false)(aa:Az E H S)(h:Az E H ((S.set j B).set l A)→JL J Q b n L ds todo cs (Ap E H ((S.set j B).set l A))):JL J Q b n L ds todo cs (Ap E H S):=by
 have K:j≠l:=by simpa using Z
 refine JS.perm ?_ aa h;have ab:=(Co (seg':=B) O).1;have ac:(S.set j [])[l]? =some B:=by rw [List.getElem?_set_ne K];exact U
 have ae:=(Co (seg':=A) ac).1;have ag:((S.set j B).set l A)[l]? =some A:=by
  have:l<(S.set j B).length:=by rw [List.length_set];exact(List.getElem?_eq_some_iff.1 U).1
  rw [List.getElem?_set,if_pos rfl,if_pos this]
 have W:=(Co (seg':=A) ag).1;rw [List.set_set] at W;have ah:((S.set j B).set l [])[j]? =some B:=by
  have:j<S.length:=(List.getElem?_eq_some_iff.1 O).1;rw [List.getElem?_set_ne (Ne.symm K)];simp [this]
 have c2:=(Co (seg':=B) ah).1;have ai:(((S.set j B).set l []).set j [])=((S.set j []).set l []):=by
  rw [List.set_comm _ _ K,List.set_set,List.set_comm _ _ K.symm]
 rw [ai] at c2;exact ab.trans ((ae.append_right A).trans ((c2.symm.append_right A).trans W.symm))
theorem DM{A off:Nat}{c:Array Value}{f:Nat×Nat}{vs:List Value}{seg:Seg}(j:Nat)(K:Az E H S)(O:S[j]? =some ((A,.cells c e f)::seg))(U:(c.toList.drop off).take vs.length=vs):∀i v,vs[i]? =some v→(Ap E H S).cell? (Addr.add ⟨A,off,none⟩ i)=some v:=
 NR K O fun i v hi=>by
  have W:i<vs.length:=(List.getElem?_eq_some_iff.1 hi).1
  rw [← U,List.getElem?_take_of_lt W,List.getElem?_drop,Array.getElem?_toList] at hi
  exact hi
theorem Ko(vs:List Value):∀(c:Array Value) (off:Nat),off+vs.length≤c.size→∀j,(AL c off vs)[j]? =if off≤j∧j<off+vs.length then vs[j - off]? else c[j]? :=by
 induction vs with
 | nil=>intro c off _ j;simp [AL];omega
 | cons w vs K=>
  intro c off U j;simp only [AL,List.length_cons] at*;rw [K _ _ (by simp;omega)];by_cases O:j=off
  ·subst O;rw [if_neg (by omega),if_pos (by omega),Nat.sub_self,List.getElem?_cons_zero,Array.getElem?_setIfInBounds_self_of_lt (by omega)]
  ·by_cases A:off+1≤j∧j<off+1+vs.length
   ·rw [if_pos A,if_pos (by omega)];have:j - off=(j - (off+1))+1:=by omega
    rw [this];simp
   ·rw [if_neg A,if_neg (by omega),Array.getElem?_setIfInBounds_ne (by omega)]
end
end Pal
namespace Pal
open Go Go.Conc
theorem elim_inl{α β A:Type}{f:α→Option A}{g:β→Option A}{x:α}{r:A}(h:Sum.elim f g (.inl x)=some r):f x=some r:=h
theorem elim_inr{α β A:Type}{f:α→Option A}{g:β→Option A}{x:β}{r:A}(h:Sum.elim f g (.inr x)=some r):g x=some r:=h
def room{α:Type}(xs:List α)(x:α):Option (List α):=if xs.length+1≤2 ^ 40 then some (xs++ [x]) else none
theorem Oo{α:Type}{xs ys:List α}{x:α}(h:room xs x=some ys):xs.length+1≤2 ^ 40∧ys=xs++ [x]:=by
 unfold room at h;split at h
 ·rename_i hb;exact⟨hb,(Option.some.inj h).symm⟩
 ·cases h
def Ij(a b:Nat):Option Nat:=if b=0 then none else some (a % b)
def F6(a b:Nat):Option Nat:=if a<65536∧b<65536 then some (a ||| b) else none
def Gz(a b:Nat):Option Nat:=if a<65536∧b<65536 then some (a&&& b) else none
section
variable {P:Program}{s:St}{ρ:Operand→Value}{x y z:Operand}{d:Option Tmp}{t u ty e:TypeId}{p:String}{af:Array Edge}{g:Option (Nat×Bool)}{v:Value}{kd kd':IntKind}{m m':Int}{a b:Nat}
theorem Yl.Rj{r:Nat}(A:ρ x= .int .u64 (a:Int))(K:ρ y= .int .u64 (b:Int))(h:Ij a b=some r):Yl P ⟨d,.binOp .rem t x y u,ty,p,af,g⟩ ρ s (.int .u64 (r:Int)):=by
 unfold Ij at h;split at h
 ·cases h
 ·rename_i O;cases h;exact Yl.R2 A K O
theorem Yl.G5{r:Nat}(K:ρ x=Cv a)(O:ρ y=Cv b)(h:F6 a b=some r):Yl P ⟨d,.binOp .or t x y u,ty,p,af,g⟩ ρ s (Cv r):=by
 unfold F6 at h;split at h
 ·rename_i A;cases h;exact Yl.Sj K O A.1 A.2
 ·cases h
theorem Yl.Jc{r:Nat}(K:ρ x=Cv a)(O:ρ y=Cv b)(h:Gz a b=some r):Yl P ⟨d,.binOp .and t x y u,ty,p,af,g⟩ ρ s (Cv r):=by
 unfold Gz at h;split at h
 ·rename_i A;cases h;exact Yl.R1 K O A.1 A.2
 ·cases h
theorem Yl.min2{ats:Array TypeId}(A:ρ x=iV m)(K:ρ y=iV m'):Yl P ⟨d,.call ⟨.builtin .min,#[x,y],ats⟩,ty,p,af,g⟩ ρ s (iV (min m m')):=by
 have e:(if m'<m then m' else m)=min m m':=by split <;> omega
 simp [Yl,execOp,lp,pure,bind,Sem.bind,A,K,resolve,invoke,builtin,Builtin.min_,Builtin.min2,e]
theorem Yl.max2{ats:Array TypeId}(A:ρ x=iV m)(K:ρ y=iV m'):Yl P ⟨d,.call ⟨.builtin .max,#[x,y],ats⟩,ty,p,af,g⟩ ρ s (iV (max m m')):=by
 have e:(if m<m' then m' else m)=max m m':=by split <;> omega
 simp [Yl,execOp,lp,pure,bind,Sem.bind,A,K,resolve,invoke,builtin,Builtin.max_,Builtin.max2,e]
end
def Hg(P:Program):List Field→List (Nat×Nat)→Prop
 | f::A,(o,n)::K=>f.offset=o∧Bf P f.type=some n∧Hg P A K
 | [],[]=>True
 | _,_=>False
theorem Hg.mapM{P:Program}:∀{A:List Field} {K:List (Nat×Nat)},Hg P A K→A.mapM (fun f=>(Bf P f.type).map fun n=>(f.offset,n))=some K
 | [],[],_=>rfl
 | [],_::_,h=>h.elim
 | _::_,[],h=>h.elim
 | f::A,(o,n)::K,h=>by
  obtain⟨O,U,W⟩:=h
  simp only [List.mapM_cons,bind,U,Option.map_some,Option.bind_some,Hg.mapM W,O];rfl
theorem Ky{L:Env}{ρ:Operand→Value}(h:Cw L ρ):∀{l:List (Nat×Operand)} {vs:List (Nat×Value)},l.mapM (fun q=>(ev L q.2).map fun v=>(q.1,v))=some vs→l.map (fun(j,x)=>(j,ρ x))=vs
 | [],vs,e=>by simp at e;subst e;rfl
 | q::l,vs,e=>by
  simp only [List.mapM_cons,bind] at e
  cases A:ev L q.2 with
  | none=>rw [A] at e;simp at e
  | some w=>
   rw [A] at e
   simp only [Option.map_some,Option.bind_some] at e
   obtain⟨U,O,K⟩:=bind_some e
   simp at K;subst K
   simp [Ky h O,h _ _ A]
theorem Yl.B4{P:Program}{s:St}{ρ:Operand→Value}{L:Env}{d:Option Tmp}{t ty:TypeId}{p:String}{af:Array Edge}{g:Option (Nat×Bool)}{z:Value}{A:Array Field}{K:Array (Nat×Operand)}{vs:List (Nat×Value)}{cells:Array Value}(places:List (Nat×Nat))(h:Cw L ρ)(O:zeroOf P t=some z)(ht:P.underlying t=some (.struct A))(U:Hg P A.toList places)
  (W:K.toList.mapM (fun q=>(ev L q.2).map fun v=>(q.1,v))=some vs) (Z:Gv (places.toArray[·]?) z.cells vs=some cells):Yl P ⟨d,.build t K,ty,p,af,g⟩ ρ s (.agg cells):=
 Yl.build (places:=places.toArray) O ht (by simpa using U.mapM) (Ky h W) (by rw [fill_eq];exact Z)
theorem OL.again{α:Type}{e:TypeId}{pp:Rp α}{E:LH}{a:Option Addr}{A c o:Nat}{f:Array Value}{xs:List α}{m:Int}{x:α}(O:OL e pp E a c [(A,.cells f e (0,0))] xs)(hm:ix xs m=some x)(U:o=m.toNat*pp.n):
  ∃ws,pp.r E ws x∧(∀j w,ws[j]? =some w→f[o+j]? =some w)∧o+pp.n≤f.size∧∀(x':α) (ws':List Value),pp.r E ws' x'→OL e pp E a c [(A,.cells (AL f o ws') e (0,0))] (xs.set m.toNat x'):=by
 obtain⟨m,rfl,hm⟩:=EP hm;obtain⟨ag,ah,ws,ai,K,W,Z,aa,ab⟩:=OL.get O hm;simp only [List.cons.injEq,Prod.mk.injEq,Obj.cells.injEq,and_true] at K;obtain⟨rfl,rfl⟩:=K;have ac:(m+1)*pp.n=m*pp.n+pp.n:=Nat.succ_mul _ _;have ae:o=m*pp.n:=by simpa using U
 subst ae;exact⟨ws,W,Z,by rw [← ac];exact aa,by simpa using ab⟩
section
variable {P:Program}{J:Judge P}{Q:Goroutine→St→Prop}{b:Frame}{n:Nat}{ds:List Deferred}{ops:Array Oper}{k:List Item}{cs:List Frame}{L:Env}{s:St}{E E' H:LH}{S:List Seg}
variable {d:Option Tmp}{x y:Operand}{t u ty e:TypeId}{p:String}{af:Array Edge}{g:Option (Nat×Bool)}{v:Value}{i:Nat}{rest:List Nat}{kd:IntKind}
theorem JS.app{α:Type}{pp:Rp α}{t1 t2:TypeId}{A c:Nat}{a:Option Addr}{seg:Seg}{xs ys:List α}{xv:α}{W:Nat}{d1:Tmp}{ats:Array TypeId}{K:TypeId}{O:String}{U:Array Edge}{g':Option (Nat×Bool)}{z:Value}(j:Nat)(ab:room xs xv=some ys)
  (ac:ops[i]? =some ⟨some d1,.buildSlice t2 1 #[(0,y)],K,O,U,g'⟩) (hw:AS L ops ⟨some d1,.buildSlice t2 1 #[(0,y)],K,O,U,g'⟩=some true) (ae:BC b n ⟨some d1,.buildSlice t2 1 #[(0,y)],K,O,U,g'⟩=true)
  (ag:ops[W]? =some ⟨d,.call ⟨.builtin .append,#[x,.tmp d1],ats⟩,ty,p,af,g⟩) (ah:∀w,AS (AH L (some d1) w) ops ⟨d,.call ⟨.builtin .append,#[x,.tmp d1],ats⟩,ty,p,af,g⟩=some true) (ai:BC b n ⟨d,.call ⟨.builtin .append,#[x,.tmp d1],ats⟩,ty,p,af,g⟩=true)
  (aj:∀w,ev (AH L (some d1) w) x=some (.slice a xs.length c)) (ak:ev L y=some v) (al:ats[0]? =some t) (am:ats[1]? =some t1) (ht:P.underlying t=some (.slice e)) (an:P.underlying t1=some (.slice e)) (ao:P.underlying t2=some (.slice e)) (ap:Bf P e=some pp.n) (hb:CH P e=some A) (aq:zeroOf P e=some z) (ar:z.cells.size=pp.n)
  (au:0<A) (av:A≤64) (aw:0<pp.n) (ay:pp.n≤64) (az:OL e pp E a c seg xs) (aA:pp.r E v.cells.toList xv) (aB:Az E H S) (aC:S[j]? =some seg)
  (h:∀w Z aa seg',OL e pp E Z aa seg' ys→Az E H (S.set j seg')→JL J Q b n (AH (AH L (some d1) w) d (.slice Z ys.length aa)) ds (.inRegion ops rest::k) cs (Ap E H (S.set j seg'))):
  JL J Q b n L ds (.inRegion ops (i::W::rest)::k) cs (Ap E H S):=by
 obtain⟨aD,rfl⟩:=Oo ab;exact JS.HR j ac hw ae ag ah ai aj ak al am ht an ao ap hb aq ar au av aw ay aD az aA aB aC h
theorem JS.norm{todo:List Item}{S':List Seg}(A:S=S')(K:Az E H S)(h:Az E H S'→JL J Q b n L ds todo cs (Ap E H S')):JL J Q b n L ds todo cs (Ap E H S):=by
 subst A;exact h K
end
end Pal
namespace Pal
open Go Go.Conc
theorem Ch.EZ{P:Program}{J:Judge P}{f:FuncId}{args:Array Value}{s:St}{R:Value→St→Prop}(h:Ch J f args s R)(O:∀v s',R v s'→s'.q=false):Ch J f args s (fun v s'=>R v s'∧∃w,Fits s' w):=fun Q c cs U=>
 h Q c cs fun v s' A=>by
  by_cases K:∃w,Fits s' w
  ·exact U v s' ⟨A,K⟩
  ·exact J.step ⟨rfl,fun w f=>absurd ⟨w,f⟩ K,fun e=>by have:=O v s' A;subst e;cases this⟩
def AD(l:List Nat):Nat→Bool:=fun x=>l.contains x
section
variable {P:Program}{J:Judge P}{Q:Goroutine→St→Prop}{b:Frame}{n:Nat}{ds:List Deferred}{ops:Array Oper}{k:List Item}{cs:List Frame}{m fuel:Nat}{D:Nat→Bool}{listed:Array Bool}{L:Env}{s:St}{E E' H:LH}{S:List Seg}
variable {d:Option Tmp}{x y:Operand}{t u ty e:TypeId}{p:String}{af:Array Edge}{g:Option (Nat×Bool)}{v:Value}{i:Nat}{kd:IntKind}
def EE(ops:Array Oper)(listed:Array Bool)(m i:Nat):Bool:=match ops[i]? with
 | some oi=>decide (i<m)&&Region.noSelect ops&& !B7 oi.op&&ET ops listed i oi&&D9 ops listed&&listed.size==ops.size&&(Region.ready .any ops listed).contains i
 | none=>false
theorem JG.CQ(m:Nat){id:Nat}(hm:P.follows .mixedOrders=true)(A:(b.kind != .early)=true)
  (ht:Dc ops m=true) (h:Dc ops m=true→Av J Q b n ds ops k cs m CG ops.size (Array.replicate ops.size false) L (Ap E H S)):JL J Q b n L ds (.code (.region id ops true)::k) cs (Ap E H S):=
 JL.MT m CG rfl hm A (h ht)
theorem Ks{oi:Oper}{i:Nat}(hi:ops[i]? =some oi)(A:EE ops listed m i=true):decide (i<m)=true∧Region.noSelect ops=true∧(!B7 oi.op)=true∧ET ops listed i oi=true∧D9 ops listed=true∧(listed.size==ops.size)=true∧(Region.ready .any ops listed).contains i=true:=by
 simp only [EE,hi,Bool.and_eq_true] at A;obtain⟨⟨⟨⟨⟨⟨K,O⟩,U⟩,W⟩,Z⟩,aa⟩,ab⟩:=A;exact⟨K,O,U,W,Z,aa,ab⟩
theorem JG.val{oi:Oper}(i:Nat)(hi:ops[i]? =some oi)(A:Dc ops m=true)(K:EE ops listed m i=true)(O:s.q=false)
  (hw:AS L ops oi=some true) (U:A2 n oi.dst=true) (W:∀ρ,Cw L ρ→∀s':St,(∀x o,(A8 D s).E x=some o→s'.E x=some o)→Yl P oi ρ s' v)
  (h:Av J Q b n ds ops k cs m D fuel (AW listed i) (AH L oi.dst v) s):Av J Q b n ds ops k cs m D (fuel+1) listed L s:=
 let ⟨Z,aa,ab,ac,ae,ag,ah⟩:=Ks hi K
 Av.Ry hi Z A aa ab ac ae ag ah O hw U (fun ρ ai s' _ hs=>W ρ ai s' hs) h
theorem JG.no{oi:Oper}(i:Nat)(hi:ops[i]? =some oi)(A:Dc ops m=true)(K:EE ops listed m i=true)(O:s.q=false)
  (hw:AS L ops oi=some false) (U:A2 n oi.dst=true)
  (h:Av J Q b n ds ops k cs m D fuel (AW listed i) (AH L oi.dst undef) s):Av J Q b n ds ops k cs m D (fuel+1) listed L s:=
 let ⟨W,Z,aa,ab,ac,ae,ag⟩:=Ks hi K
 Av.RM hi W A Z aa ab ac ae ag O hw U h
theorem JG.idx{α:Type}{pp:Rp α}{a:Option Addr}{c:Nat}{xs:List α}{xv:α}{A:Int}(i:Nat)(W:Ar pp E a c xs)(O:ix xs A=some xv)
  (Z:ops[i]? =some ⟨d,.indexAddr t x y,ty,p,af,g⟩) (aa:Dc ops m=true) (ab:EE ops listed m i=true) (ac:s.q=false)
  (hw:AS L ops ⟨d,.indexAddr t x y,ty,p,af,g⟩=some true) (ae:A2 n d=true)
  (ag:ev L x=some (.slice a xs.length c)) (ah:ev L y=some (.int kd A)) (ht:P.underlying t=some (.slice e)) (ai:Bf P e=some pp.n)
  (h:∀K o ws,pp.r E ws xv→At E K o ws→Av J Q b n ds ops k cs m D fuel (AW listed i) (AH L d (.pointer (some ⟨K,o,none⟩))) s):
  Av J Q b n ds ops k cs m D (fuel+1) listed L s:=by
 obtain⟨A,rfl,O⟩:=EP O;have aj:A<xs.length:=(List.getElem?_eq_some_iff.1 O).1;obtain⟨an,⟨rfl,_⟩ | ⟨K,off,rfl,ak⟩⟩:=W
 ·simp at aj
 obtain⟨ws,al,am⟩:=ak A xv O;refine JG.val (v:= .pointer (some ⟨K,off+A*pp.n,none⟩)) i Z aa ab ac hw ae (fun ρ U s' _=>?_) (h K _ ws al am);have:=Yl.HY (P:=P) (s:=s') (d:=d) (ty:=ty) (p:=p) (af:=af) (g:=g) ht ai (U x _ ag) (U y _ ah) ⟨by omega,by omega⟩;rw [Ba rfl] at this;simpa using this
theorem JG.call{f:FuncId}{args:Array Operand}{ats:Array TypeId}{vs:List Value}{R:Value→LH→Seg→Prop}(U:Au J f vs E [] R)(W:Region.ready .any ops listed= [i])
  (Z:ops[i]? =some ⟨d,.call ⟨.value (.func f),args,ats⟩,ty,p,af,g⟩) (aa:A2 n d=true) (hw:AS L ops ⟨d,.call ⟨.value (.func f),args,ats⟩,ty,p,af,g⟩=some true) (hb:Cd P f=true) (ab:evs L args.toList=some vs) (ac:Az E H S)
  (ae:∀v E' seg',Le E E'→R v E' seg'→Az E' H (S++ [seg'])→Av J Q b n ds ops k cs m CG fuel (AW listed i) (AH L d v) (Ap E' H (S++ [seg']))):
  Av J Q b n ds ops k cs m CG (fuel+1) listed L (Ap E H S):=by
 have ag:=Ch.EZ (U (AT S.flatten H) trivial) (by rintro v s' ⟨E',B',_,_,_,rfl⟩;rfl);refine Av.call rfl W Z aa hw hb ab ag ?_;rintro v ao ⟨⟨E',B',hle,ah,ai,rfl⟩,w,aj⟩;have ak:mk E' (AT S.flatten H) B'=mk E' H (B'++S.flatten):=by unfold mk;rw [Dl]
 have al:Nd E' H S.flatten:=Nd.grow ac fun x A=>by
  have am:=aj.d x A;have an:AT B' (AT S.flatten H) x=none:=am;exact(D5 an).1
 have K:Nd E' H (B'++S.flatten):=Nd.glue ai al;have O:(B'++S.flatten).Perm (S++ [B']).flatten:=by rw [D7];exact List.perm_append_comm
 rw [ak,CW K O];exact⟨rfl,fun x o A=>hle x o A,ae v E' B' hle ah (Nd.perm K O)⟩
end
end Pal
namespace Pal
open Go Go.Conc
theorem G0{E H:LH}{S:List Seg}{j A:Nat}{o:Obj}{seg:Seg}(K:Az E H S)(O:S[j]? =some ((A,o)::seg)):E A=none:=by
 have hm:(A,o)∈S.flatten:=List.mem_flatten.2 ⟨_,List.mem_of_getElem? O,by simp⟩;exact((Nd.iff.1 K).2 _ hm).1
end Pal
namespace Pal
open Go Go.Conc
def Hb(a:Nat)(n:Int):Option Nat:=if 0≤n∧n≤16 then some (a>>>n.toNat) else none
def G7(n:Int):Option Nat:=if 0≤n∧n<16 then some (1<<<n.toNat) else none
def H9{α:Type}(n:Int)(z:α):Option (List α):=if 0≤n∧n≤2 ^ 20 then some (List.replicate n.toNat z) else none
def CY{α:Type}(xs ys:List α):Option (List α):=if xs.length+ys.length≤2 ^ 40 then some (xs++ys) else none
section
variable {P:Program}{s:St}{ρ:Operand→Value}{x y z:Operand}{d:Option Tmp}{t u ty e:TypeId}{p:String}{af:Array Edge}{g:Option (Nat×Bool)}{v:Value}{kd kd':IntKind}{m m':Int}{a b:Nat}
theorem Yl.R3{r:Nat}(A:ρ x=Cv a)(K:ρ y=iV m)(h:Hb a m=some r):Yl P ⟨d,.binOp .shr t x y u,ty,p,af,g⟩ ρ s (Cv r):=by
 unfold Hb at h;split at h
 ·rename_i O;cases h;refine Yl.R5 A (c:=m.toNat) ?_ (by omega);rw [K];congr 1;omega
 ·cases h
theorem Yl.Sc{r:Nat}(A:ρ x=Cv 1)(K:ρ y=iV m)(h:G7 m=some r):Yl P ⟨d,.binOp .shl t x y u,ty,p,af,g⟩ ρ s (Cv r):=by
 unfold G7 at h;split at h
 ·rename_i O;cases h;refine Yl.R6 A (c:=m.toNat) ?_ (by omega);rw [K];congr 1;omega
 ·cases h
end
section
variable {P:Program}{J:Judge P}{Q:Goroutine→St→Prop}{b:Frame}{n:Nat}{ds:List Deferred}{ops:Array Oper}{k:List Item}{cs:List Frame}{L L':Env}{s:St}{E E' H:LH}{S:List Seg}
variable {d:Option Tmp}{x y:Operand}{t u ty e:TypeId}{p:String}{af:Array Edge}{g:Option (Nat×Bool)}{v:Value}{i:Nat}{rest:List Nat}{kd:IntKind}
theorem Oe{ρ:Operand→Value}:execOp ρ ⟨d,.makeSlice t x y,ty,p,af,g⟩=(do pure (Next.value (← Instr.makeSlice t (ρ x) (ρ y)))):=by
 simp only [execOp]
theorem IG{α:Type}(w:List α):∀m:Nat,((List.replicate m w).flatten).length=m*w.length
 | 0=>by simp
 | m+1=>by rw [List.replicate_succ,List.flatten_cons,List.length_append,IG w m,Nat.succ_mul,Nat.add_comm]
theorem OA(z:Array Value)(K:0<z.size):∀m:Nat,((Array.range (m*z.size)).map (z[· % z.size]!)).toList=(List.replicate m z.toList).flatten:=by
 intro m;apply List.ext_getElem?;intro j;simp only [Array.toList_map,Array.toList_range,List.getElem?_map];by_cases A:j<m*z.size
 ·rw [List.getElem?_range A];have U:j / z.size<m:=(Nat.div_lt_iff_lt_mul K).2 A;have O:j % z.size<z.size:=Nat.mod_lt _ K;have hw:(List.replicate m z.toList)[j / z.size]? =some z.toList:=by simp [U]
  have:=Gb (n:=z.size) (wss:=List.replicate m z.toList) (fun ws W=>by rw [List.eq_of_mem_replicate W];simp) hw (j % z.size) z[j % z.size] (by simp [O]);rw [show j / z.size*z.size+j % z.size=j from by rw [Nat.mul_comm];exact Nat.div_add_mod _ _] at this;rw [this];simp [O]
 ·have hlen:((List.replicate m z.toList).flatten).length=m*z.size:=by rw [IG];simp
  rw [List.getElem?_eq_none (by simpa using A),List.getElem?_eq_none (by rw [hlen];omega)];rfl
theorem JS.make{α:Type}{pp:Rp α}{z:Value}{W:α}{m:Int}{xs:List α}(O:H9 m W=some xs)
  (ah:ops[i]? =some ⟨d,.makeSlice t x y,ty,p,af,g⟩) (hw:AS L ops ⟨d,.makeSlice t x y,ty,p,af,g⟩=some true) (ai:BC b n ⟨d,.makeSlice t x y,ty,p,af,g⟩=true)
  (aj:ev L x=some (iV m)) (U:ev L y=some (iV m)) (ht:P.underlying t=some (.slice e)) (ak:Bf P e=some pp.n) {K:Nat} (hb:CH P e=some K) (ay:K≤64) (al:zeroOf P e=some z) (az:0<pp.n) (Z:pp.r E z.cells.toList W) (am:Az E H S)
  (h:∀r seg,OL e pp E (some ⟨r,0,none⟩) xs.length seg xs→Az E H (S++ [seg])→JL J Q b n (AH L d (.slice (some ⟨r,0,none⟩) xs.length xs.length)) ds (.inRegion ops rest::k) cs (Ap E H (S++ [seg]))):
  JL J Q b n L ds (.inRegion ops (i::rest)::k) cs (Ap E H S):=by
 unfold H9 at O;split at O
 rotate_left
 ·cases O
 rename_i hm;cases O;refine JL.op ah hw ai fun ρ aa=>?_;rw [Oe,aa x _ aj,aa y _ U];refine AF _ _ ?_;unfold Instr.makeSlice;refine AF _ _ (BU ht ?_);simp only [asInt,Eo];obtain⟨inf,an,ao⟩:=Hz hb;refine AF (x:=typeInfo e) _ (Fh an ?_);simp only [ao,FI (show -9223372036854775808≤m∧m≤9223372036854775807 by omega)];have aA:(K:Int)*m≤64*2 ^ 20:=by
  have ab:(K:Int)*m≤64*m:=Int.mul_le_mul_of_nonneg_right (by omega) hm.1;omega
 have ap:((decide (m<0) || decide ((K:Int)*m>2 ^ 48)) || decide (m<0) || decide (m>m))=false:=by
  simp only [Bool.or_eq_false_iff,decide_eq_false_iff_not];omega
 rw [ap];simp only [Bool.false_eq_true,if_false];refine AF (x:=askRoom _) _ ?_;have aq:∀{Q:Unit→St→Prop} {X:Halt→St→Prop} (w:Nat),Q () (Ap E H S)→lp P (askRoom w) (Ap E H S) Q X:=by
  intro Q X w ac;unfold askRoom;split
  ·exact⟨.inl ⟨rfl,rfl⟩,ac⟩
  ·exact ac
 refine aq _ ?_;refine AF (x:=Go.sizeOf e) _ (CM ak ?_);have ae:z.cells.size=pp.n:=by simpa using pp.len Z
 have fin:∀A:Array Value,((Array.range (m.toNat*pp.n)).map (A[· % A.size]!)).toList=(List.replicate m.toNat z.cells.toList).flatten→lp P (do let a ← newRow e ((Array.range (m.toNat*pp.n)).map (A[· % A.size]!));pure (Value.slice (some a) m.toNat m.toNat)) (Ap E H S) (fun a s'=>lp P (pure (Next.value a)) s' (fun nx s'=>match nx with
   | .value v=>JL J Q b n (AH L d v) ds (.inRegion ops rest::k) cs s'
   | .skip=>JL J Q b n (AH L d undef) ds (.inRegion ops rest::k) cs s'
   | _=>False) (fun _ _=>False)) (fun _ _=>False):=by
  intro A ar;refine AF _ _ (Es am fun r ag=>?_);rw [(CF ag).1];have aB:((Array.range (m.toNat*pp.n)).map (A[· % A.size]!)).size=m.toNat*pp.n:=by simp
  have:=h r _ ⟨List.replicate m.toNat z.cells.toList,.inr ⟨r,_,rfl,rfl,by simp,by simp,by
   rw [ar,List.take_of_length_le (by rw [IG];simp [ae])]⟩,by simp,fun i y us U hu=>by
    have:=List.mem_of_getElem? U;have au:=List.eq_of_mem_replicate this
    have:=List.mem_of_getElem? hu;have av:=List.eq_of_mem_replicate this
    subst au av;exact Z⟩ (CF ag).2
  simp only [List.length_replicate] at this;exact this
 split
 ·rename_i aw;have ab:m.toNat=0:=by rcases Nat.mul_eq_zero.1 aw with h | h <;> omega
  exact fin #[] (by simp [ab])
 ·refine AF (x:=zeroValue e) _ (Dy al ?_);refine fin z.cells ?_;rw [← ae];exact OA z.cells (by omega) _
theorem JS.Hk{α:Type}{pp:Rp α}(K:ops[i]? =some ⟨d,.buildSlice t 0 #[],ty,p,af,g⟩)(hw:AS L ops ⟨d,.buildSlice t 0 #[],ty,p,af,g⟩=some true)(O:BC b n ⟨d,.buildSlice t 0 #[],ty,p,af,g⟩=true)
  (ht:P.underlying t=some (.slice e)) (U:Bf P e=some pp.n) (W:Az E H S)
  (h:∀r seg,OL e pp E (some ⟨r,0,none⟩) 0 seg []→Az E H (S++ [seg])→JL J Q b n (AH L d (.slice (some ⟨r,0,none⟩) 0 0)) ds (.inRegion ops rest::k) cs (Ap E H (S++ [seg]))):
  JL J Q b n L ds (.inRegion ops (i::rest)::k) cs (Ap E H S):=by
 refine JL.op K hw O fun ρ aa=>?_;rw [KD];refine AF _ _ ?_;unfold Instr.buildSlice;refine AF _ _ (BU ht ?_);refine AF _ _ (CM U ?_);rw [if_neg (by omega),if_pos (by omega)];refine AF (x:=pure #[]) _ ?_;simp only [lp,pure,List.map_toArray,List.map_nil,Instr.fill];refine AF _ _ (Es W fun r A=>?_);rw [(CF A).1];exact h r _ ⟨[],.inr ⟨r,_,rfl,rfl,by simp,Nat.le_refl _,by simp⟩,rfl,fun i x ws Z=>by simp at Z⟩ (CF A).2
theorem Ar.rows{α:Type}{pp:Rp α}{a:Option Addr}{c:Nat}{xs:List α}(U:Ar pp E a c xs):∃wss:List (List Value),wss.length=xs.length∧(∀(i:Nat) x ws,xs[i]? =some x→wss[i]? =some ws→pp.r E ws x)∧
  ((xs= []∧∀ad:Addr,a=some ad→ad.spot=none)∨∃K off,a=some ⟨K,off,none⟩∧∀(i:Nat) ws,wss[i]? =some ws→At E K (off+i*pp.n) ws):=by
 obtain⟨ab,U⟩:=U;rcases U with⟨rfl,Z⟩ | ⟨K,off,rfl,aa⟩
 ·exact⟨[],rfl,fun i x ws O=>by simp at O,.inl ⟨rfl,Z⟩⟩
 ·have W:∀i:Fin xs.length,∃ws,pp.r E ws xs[i]∧At E K (off+i*pp.n) ws:=fun i=>aa i xs[i] (List.getElem?_eq_getElem i.2);refine⟨List.ofFn fun i=>Classical.choose (W i),by simp,fun i x ws O hw=>?_,.inr ⟨K,off,rfl,fun i ws hw=>?_⟩⟩
  ·have A:i<xs.length:=(List.getElem?_eq_some_iff.1 O).1;simp [A] at hw;subst hw;rw [List.getElem?_eq_getElem A] at O;cases O;exact(Classical.choose_spec (W ⟨i,A⟩)).1
  ·have A:i<xs.length:=by have:=(List.getElem?_eq_some_iff.1 hw).1;simpa using this
   simp [A] at hw;subst hw;exact(Classical.choose_spec (W ⟨i,A⟩)).2
theorem Hv{n:Nat}:∀{wss:List (List Value)},(∀ws∈wss,ws.length=n)→wss.flatten.length=wss.length*n
 | [],_=>by simp
 | ws::wss,h=>by rw [List.flatten_cons,List.length_append,h ws (by simp),Hv fun w hw=>h w (List.mem_cons_of_mem _ hw),List.length_cons,Nat.succ_mul,Nat.add_comm]
theorem IC{n:Nat}:∀{wss:List (List Value)},(∀ws∈wss,ws.length=n)→∀{j:Nat} {w:Value},wss.flatten[j]? =some w→∃(i m:Nat) (ws:List Value),wss[i]? =some ws∧ws[m]? =some w∧j=i*n+m
 | [],_,_,_,h=>by simp at h
 | us::wss,K,j,w,h=>by
  have hu:=K us (by simp)
  rw [List.flatten_cons] at h
  rcases Nat.lt_or_ge j us.length with A | A
  ·rw [List.getElem?_append_left A] at h
   exact⟨0,j,us,rfl,h,by simp⟩
  ·rw [List.getElem?_append_right A] at h;obtain⟨i,m,ws,O,U,W⟩:=IC (fun ws hw=>K ws (List.mem_cons_of_mem _ hw)) h;exact⟨i+1,m,ws,by simpa using O,U,by rw [Nat.succ_mul];omega⟩
theorem IH{α:Type}{pp:Rp α}{wss K:List (List Value)}{xs ys:List α}(O:wss.length=xs.length)(h:∀(i:Nat) x ws,xs[i]? =some x→wss[i]? =some ws→pp.r E ws x)(U:∀(i:Nat) x ws,ys[i]? =some x→K[i]? =some ws→pp.r E ws x):
  ∀(i:Nat) y us,(xs++ys)[i]? =some y→(wss++K)[i]? =some us→pp.r E us y:=by
 intro i y us A hu;rcases Nat.lt_or_ge i xs.length with hi | hi
 ·rw [List.getElem?_append_left hi] at A;rw [List.getElem?_append_left (by omega)] at hu;exact h i y us A hu
 ·rw [List.getElem?_append_right hi] at A;rw [List.getElem?_append_right (by omega),O] at hu;exact U _ y us A hu
variable {B0:List (Nat×Obj)}
theorem JL.PN{e t t1:TypeId}{W ak l c m:Nat}{a:Option Addr}{blk:List (Nat×Obj)}{xs ys:List Value}{i:Nat}{rest:List Nat}{d:Option Tmp}{x y:Operand}{ats:Array TypeId}{ty:TypeId}{p:String}{af:Array Edge}{g:Option (Nat×Bool)}{z:Value}{ax:Option Addr}{cx:Nat}{B1:List (Nat×Obj)}
  (av:ops[i]? =some ⟨d,.call ⟨.builtin .append,#[x,y],ats⟩,ty,p,af,g⟩) (hw:AS L ops ⟨d,.call ⟨.builtin .append,#[x,y],ats⟩,ty,p,af,g⟩=some true) (aw:BC b n ⟨d,.call ⟨.builtin .append,#[x,y],ats⟩,ty,p,af,g⟩=true)
  (ay:ev L x=some (.slice a l c)) (az:ev L y=some (.slice ax m cx)) (aA:ats[0]? =some t) (aB:ats[1]? =some t1) (ht:P.underlying t=some (.slice e)) (aC:P.underlying t1=some (.slice e)) (aD:Bf P e=some W) (hb:CH P e=some ak) (aE:zeroOf P e=some z) (aF:z.cells.size=W)
  (aG:0<ak) (aH:ak≤64) (aI:l+m≤2 ^ 40) (aJ:∀w∈ys,Bs w=true) (ah:GS e W a l c blk xs) (al:Nd E H (B0++blk++B1)) (hs:DG (mk E H (B0++blk++B1)) (.slice ax m cx) W ys)
  (h:∀aq ai am,GS e W aq (l+m) ai am (xs++ys)→Nd E H (B0++am)→JL J Q b n (AH L d (.slice aq (l+m) ai)) ds (.inRegion ops rest::k) cs (mk E H (B0++am))):
  JL J Q b n L ds (.inRegion ops (i::rest)::k) cs (mk E H (B0++blk++B1)):=by
 refine JL.op av hw aw fun ρ ar=>?_;rw [Ht,ar x _ ay,ar y _ az];have aK:H8 (B0++blk++B1) B0.length e W a l c xs:=by
  rcases ah with⟨A,U,ab,ac,Z⟩ | ⟨an,f,A,U,ab,ac,Z⟩
  ·exact .inl ⟨A,U,ab,Z⟩
  ·refine .inr ⟨an,f,A,?_,ab,ac,Z⟩;subst U;simp
 have hlen:=ah.length;refine AF _ _ (IM (pl:=B0.length) aA aB aC ht aD hb aE aF al aK hs aJ aG aI aH ?_ ?_ ?_)
 ·
  intro an f K aj aQ aR aL ao ap aa;rcases ah with⟨A,_⟩ | ⟨O,f0,A,U,ab,ac,Z⟩
  ·rw [A] at aj;cases aj
  ·subst U;have aM:O=an:=by rw [A] at aj;simpa using aj
   subst aM;have aN:(B0++ [(O,Obj.cells f0 e (0,0))]++B1).set B0.length (O,.cells K e (0,0))=B0++ [(O,.cells K e (0,0))]++B1:=by
    rw [List.append_assoc,List.append_assoc];exact Ft _ _ _ _
   rw [aN] at aa ⊢;have ae:Nd E H (B0++ [(O,.cells K e (0,0))]):=JL.Fs.Nd.left aa;refine JL.drop (B0++ [(O,.cells K e (0,0))]) (fun p ag=>?_) aa (h a c _ (.inr ⟨O,K,A,rfl,ao,aL,ap.symm⟩) ae);exact List.mem_iff_getElem?.1 (List.mem_append_left _ ag)
 ·intro au hm;rcases ah with⟨A,U,ab,ac,Z⟩ | ⟨O,f0,A,_⟩
  ·subst hm;have aO:ys= []:=by
    cases ax with
    | none=>exact hs.2
    | some ad=>have:=hs.2.1;simp at this;exact this
   subst U ac Z aO;have ae:Nd E H (B0++ []):=JL.Fs.Nd.left al;exact JL.drop (B0++ []) (fun p ag=>List.mem_iff_getElem?.1 (List.mem_append_left _ ag)) al (h none 0 [] (by simpa using GS.nil) ae)
  ·rw [A] at au;cases au
 ·
  intro r K ai aP ao ap aa;have ae:Nd E H (B0++ [(r,.cells K e (0,0))]):=JL.Fs.Nd.pick aa;refine JL.drop (B0++ [(r,.cells K e (0,0))]) (fun p ag=>?_) aa (h (some ⟨r,0,none⟩) ai _ (.inr ⟨r,K,rfl,rfl,ao,aP,ap.symm⟩) ae);refine List.mem_iff_getElem?.1 ?_;rcases List.mem_append.1 ag with q | q
  ·simp [q]
  ·exact List.mem_append_right _ q
theorem JS.M4{α:Type}{pp:Rp α}{t1:TypeId}{ab c cx:Nat}{a ax:Option Addr}{seg:Seg}{xs ys ac:List α}{ats:Array TypeId}{z:Value}(j:Nat)(U:CY xs ys=some ac)
  (an:ops[i]? =some ⟨d,.call ⟨.builtin .append,#[x,y],ats⟩,ty,p,af,g⟩) (hw:AS L ops ⟨d,.call ⟨.builtin .append,#[x,y],ats⟩,ty,p,af,g⟩=some true) (ao:BC b n ⟨d,.call ⟨.builtin .append,#[x,y],ats⟩,ty,p,af,g⟩=true)
  (ap:ev L x=some (.slice a xs.length c)) (aq:ev L y=some (.slice ax ys.length cx)) (ar:ats[0]? =some t) (au:ats[1]? =some t1) (ht:P.underlying t=some (.slice e)) (av:P.underlying t1=some (.slice e)) (aw:Bf P e=some pp.n) (hb:CH P e=some ab) (ay:zeroOf P e=some z) (az:z.cells.size=pp.n)
  (aA:0<ab) (aB:ab≤64) (ae:OL e pp E a c seg xs) (ah:Ar pp E ax cx ys) (aC:Az E H S) (ai:S[j]? =some seg)
  (h:∀W Z seg',OL e pp E W Z seg' ac→Az E H (S.set j seg')→JL J Q b n (AH L d (.slice W ac.length Z)) ds (.inRegion ops rest::k) cs (Ap E H (S.set j seg'))):
  JL J Q b n L ds (.inRegion ops (i::rest)::k) cs (Ap E H S):=by
 unfold CY at U;split at U
 rotate_left
 ·cases U
 rename_i aD;cases U;obtain⟨wss,ae,aj,aE⟩:=ae;obtain⟨aF,ak⟩:=DR aC ai;obtain⟨aa,K,ag,O⟩:=ah.rows;have al:=Fq K ag;rw [aF];have aG:∀w∈aa.flatten,Bs w=true:=fun w hw=>by
  obtain⟨us,aH,hw⟩:=List.mem_flatten.1 hw;obtain⟨q,A⟩:=List.mem_iff_getElem?.1 aH;have aI:q<ys.length:=by rw [← K];exact(List.getElem?_eq_some_iff.1 A).1
  exact pp.one (ag q _ us (List.getElem?_eq_getElem aI) A) w hw
 have hlen:(xs++ys).length=xs.length+ys.length:=by simp
 have am:DG (mk E H ((S.set j []).flatten++seg)) (.slice ax ys.length cx) pp.n aa.flatten:=by
  rcases O with⟨O,aJ⟩ | ⟨aT,off,rfl,O⟩
  ·subst O;have:aa= []:=List.eq_nil_of_length_eq_zero K;subst this;cases ax with
   | none=>exact⟨rfl,rfl⟩
   | some ad=>exact⟨aJ ad rfl,by simp,Nat.zero_le _,fun q w A=>by simp at A⟩
  ·refine⟨rfl,by rw [Hv al,K],ah.1,fun q w A=>?_⟩;obtain⟨q1,m,ws,aK,aL,aM⟩:=IC al A;have:=(O q1 ws aK).cell (H:=H) (B:=(S.set j []).flatten++seg) aL;subst aM;rw [← Nat.add_assoc];exact this
 have aN:(S.set j []).flatten++seg=(S.set j []).flatten++seg++ []:=(List.append_nil _).symm;rw [aN] at ak am ⊢;refine JL.PN an hw ao ap aq ar au ht av aw hb ay az aA aB aD aG ae ak am fun W Z aO aP aQ=>?_;obtain⟨aR,aS⟩:=ES ai aQ;rw [aR];have:=h W Z aO ⟨wss++aa,by rw [hlen,List.flatten_append];exact aP,by simp [aj,K],IH aj aE ag⟩ aS;rw [hlen] at this;exact this
end
end Pal
namespace Pal
open Go Go.Conc
section
variable {P:Program}{J:Judge P}{Q:Goroutine→St→Prop}{b:Frame}{n:Nat}{ds:List Deferred}{ops:Array Oper}{k:List Item}{cs:List Frame}{m fuel:Nat}{D:Nat→Bool}{listed:Array Bool}{L L':Env}{s:St}{E E' H:LH}{S:List Seg}
variable {d:Option Tmp}{x y:Operand}{t u ty e:TypeId}{p:String}{af:Array Edge}{g:Option (Nat×Bool)}{v:Value}{i:Nat}{rest:List Nat}{kd:IntKind}
theorem Av.BK(h:Sub L' L)(k':Av J Q b n ds ops k cs m D fuel listed L' s):Av J Q b n ds ops k cs m D fuel listed L s:=fun T A=>k' T (A.sub h)
theorem Av.join{A:Nat}{K:Array Bool}(fuel:Nat)(listed:Array Bool)(I:Env→St→Prop)(O:∀L s,I L s→Av J Q b n ds ops k cs m D fuel listed L s)(h:(∀L s,I L s→Av J Q b n ds ops k cs m D fuel listed L s)→Av J Q b n ds ops k cs m D A K L s):Av J Q b n ds ops k cs m D A K L s:=h O
end
def FF(t:TypeId)(v:Value):Option (Int×Int)→Prop
 | none=>v= .nilIface
 | some (c,a)=>v= .iface t (.agg #[iV c,iV a])
def GD{α:Type}(p:Rp α)(E:LH)(v:Value):Option α→Prop
 | none=>v= .pointer none
 | some x=>∃A o us,v= .pointer (some ⟨A,o,none⟩)∧At E A o us∧p.r E us x
theorem GD.mono{α:Type}{p:Rp α}{E E':LH}{v:Value}{d:Option α}(h:GD p E v d)(hle:Le E E'):GD p E' v d:=by
 cases d with
 | none=>exact h
 | some x=>obtain⟨A,o,us,K,O,U⟩:=h;exact⟨A,o,us,K,O.mono hle,p.mono hle U⟩
theorem At.tail{E:LH}{A o:Nat}{l ws:List Value}(h:At E A o (l++ws)):At E A (o+l.length) ws:=by
 obtain⟨f,e,fr,K,O⟩:=h;refine⟨f,e,fr,K,fun j w U=>?_⟩;rw [Nat.add_assoc];refine O _ _ ?_;rw [List.getElem?_append_right (by omega)];rw [show l.length+j - l.length=j by omega];exact U
theorem MI{α:Type}{kk:Nat}{pp:Rp α}{E:LH}{A o:Nat}{ws:List Value}{xs:List α}{m:Int}{x:α}(O:(rA kk pp).r E ws xs)(h:At E A o ws)(hm:ix xs m=some x):∃us,pp.r E us x∧At E A (o+m.toNat*pp.n) us∧0≤m∧m<kk:=by
 obtain⟨U,wss,rfl,W,K⟩:=O;obtain⟨m,rfl,hm⟩:=EP hm;have ac:m<xs.length:=(List.getElem?_eq_some_iff.1 hm).1;have hw:wss[m]? =some wss[m]:=List.getElem?_eq_getElem (by omega);refine⟨wss[m],K m x _ hm hw,?_,by omega,by omega⟩;obtain⟨f,e,fr,Z,aa⟩:=h;refine⟨f,e,fr,Z,fun j w ab=>?_⟩;rw [Nat.add_assoc];exact aa _ _ (Gb (Fq (W.trans U.symm) K) hw j w ab)
section
variable {P:Program}{s:St}{ρ:Operand→Value}{x y z:Operand}{d:Option Tmp}{t u ty e:TypeId}{p:String}{af:Array Edge}{g:Option (Nat×Bool)}{v v':Value}
theorem KE{ms:Array (String×TypeId)}{A:TypeId}{o:Option (Int×Int)}{n:Nat}(K:P.underlying t=some (.interface ms))(he:FF A v o){Q:Bool→St→Prop}{X:Halt→St→Prop}(k:Q o.isNone s):lp P (Op.equalIn (n+1) t v .nilIface) s Q X:=by
 unfold Op.equalIn;refine AF _ _ (BU K ?_);cases o with
 | none=>obtain rfl:v= .nilIface:=he;exact k
 | some q=>obtain⟨c,a⟩:=q;obtain rfl:v= .iface A (.agg #[iV c,iV a]):=he;exact k
theorem Yl.Jx{ms:Array (String×TypeId)}{A:TypeId}{o:Option (Int×Int)}(K:P.underlying t=some (.interface ms))(he:FF A v o)(O:ρ x=v)(U:ρ (.const .nilIface)= .nilIface):Yl P ⟨d,.binOp .neq t x (.const .nilIface) u,ty,p,af,g⟩ ρ s (.bool o.isSome):=by
 refine Yl.Db (sm:=do eqGuard .neq t x (.const .nilIface) (ρ x) (ρ (.const .nilIface));binOp .neq t (ρ x) (ρ (.const .nilIface))) rfl ?_
 rw [O,U];have W:lp P (eqGuard .neq t x (.const .nilIface) v .nilIface) s (fun _ s'=>s'=s) (fun _ _=>False):=by
  cases o with
  | none=>obtain rfl:v= .nilIface:=he;simp [eqGuard,lp,pure]
  | some q=>obtain⟨c,a⟩:=q;obtain rfl:v= .iface A (.agg #[iV c,iV a]):=he;simp [eqGuard,lp,pure]
 refine AF _ _ (BV _ W ?_ (fun _ _ h=>h));rintro _ _ rfl;have hb:binOp .neq t v .nilIface=(do pure (.bool (!(← Op.equal t v .nilIface)))):=by
  cases o with
  | none=>obtain rfl:v= .nilIface:=he;rfl
  | some q=>obtain⟨c,a⟩:=q;obtain rfl:v= .iface A (.agg #[iV c,iV a]):=he;rfl
 rw [hb];refine AF (x:=Op.equal t v .nilIface) _ ?_;unfold Op.equal Op.maxDepth;refine KE K he ?_;refine⟨?_,rfl⟩;cases o <;> rfl
theorem Yl.RU{ms:Array (String×TypeId)}{A:TypeId}{o:Option (Int×Int)}(K:P.underlying t=some (.interface ms))(he:FF A v o)(O:ρ x=v)(U:ρ (.const .nilIface)= .nilIface):Yl P ⟨d,.binOp .eql t x (.const .nilIface) u,ty,p,af,g⟩ ρ s (.bool o.isNone):=by
 refine Yl.Db (sm:=do eqGuard .eql t x (.const .nilIface) (ρ x) (ρ (.const .nilIface));binOp .eql t (ρ x) (ρ (.const .nilIface))) rfl ?_
 rw [O,U];have W:lp P (eqGuard .eql t x (.const .nilIface) v .nilIface) s (fun _ s'=>s'=s) (fun _ _=>False):=by
  cases o with
  | none=>obtain rfl:v= .nilIface:=he;simp [eqGuard,lp,pure]
  | some q=>obtain⟨c,a⟩:=q;obtain rfl:v= .iface A (.agg #[iV c,iV a]):=he;simp [eqGuard,lp,pure]
 refine AF _ _ (BV _ W ?_ (fun _ _ h=>h));rintro _ _ rfl;have hb:binOp .eql t v .nilIface=(do pure (.bool (← Op.equal t v .nilIface))):=by
  cases o with
  | none=>obtain rfl:v= .nilIface:=he;rfl
  | some q=>obtain⟨c,a⟩:=q;obtain rfl:v= .iface A (.agg #[iV c,iV a]):=he;rfl
 rw [hb];refine AF (x:=Op.equal t v .nilIface) _ ?_;unfold Op.equal Op.maxDepth;refine KE K he ?_;refine⟨?_,rfl⟩
 rfl
end
end Pal
namespace Pal
open Go Go.Conc
section
variable {P:Program}{J:Judge P}{Q:Goroutine→St→Prop}{b:Frame}{n:Nat}{ds:List Deferred}{ops:Array Oper}{k:List Item}{cs:List Frame}{L:Env}{E H:LH}{S:List Seg}
variable {d:Option Tmp}{x y:Operand}{t u ty e:TypeId}{p:String}{af:Array Edge}{g:Option (Nat×Bool)}{i:Nat}{rest:List Nat}{kd:IntKind}
theorem JS.JF{α:Type}{pp:Rp α}{kk A o:Nat}{l ws:List Value}{xs:List α}{xv:α}{m:Int}(O:At E A o (l++ws))(U:(rA kk pp).r E ws xs)(hm:ix xs m=some xv)
  (W:ops[i]? =some ⟨d,.indexAddr t x y,ty,p,af,g⟩) (hw:AS L ops ⟨d,.indexAddr t x y,ty,p,af,g⟩=some true) (Z:BC b n ⟨d,.indexAddr t x y,ty,p,af,g⟩=true)
  (aa:ev L x=some (.pointer (some ⟨A,o+l.length,none⟩))) (ab:ev L y=some (.int kd m)) (ht:P.underlying t=some (.array kk e)) (ac:Bf P e=some pp.n)
  (h:∀o' us,pp.r E us xv→At E A o' us→JL J Q b n (AH L d (.pointer (some ⟨A,o',none⟩))) ds (.inRegion ops rest::k) cs (Ap E H S)):
  JL J Q b n L ds (.inRegion ops (i::rest)::k) cs (Ap E H S):=by
 obtain⟨us,ae,ag,ah,ai⟩:=MI U O.tail hm;refine JL.y (v:= .pointer (some ⟨A,o+l.length+m.toNat*pp.n,none⟩)) W hw Z (fun ρ K=>?_) (h _ us ae ag);have:=Yl.L9 (P:=P) (s:=Ap E H S) (d:=d) (ty:=ty) (p:=p) (af:=af) (g:=g) ht ac (K x _ aa) (K y _ ab) ⟨ah,ai⟩;rw [Ba rfl] at this;exact this
end
end Pal
namespace Pal
open Go Go.Conc
section
variable {P:Program}{s:St}{ρ:Operand→Value}{x y z:Operand}{d:Option Tmp}{t u ty e:TypeId}{p:String}{af:Array Edge}{g:Option (Nat×Bool)}{v v':Value}
theorem LF{t:TypeId}{cells:Array Value}{off:Nat}{v:Value}(ht:Cm P t=some false)(A:cells[off]? =some v){Q:Value→St→Prop}{X:Halt→St→Prop}(k:Q v s):lp P (part t cells off) s Q X:=by
 unfold part;refine AF _ _ (GN ht ?_);simp only [Bool.false_eq_true,if_false,A];exact k
theorem Og{o:BinOp}{c A:Array Value}(K:o= .eql∨o= .neq)(O:P.eqGuardType P.depth t=false){Q:Unit→St→Prop}{X:Halt→St→Prop}(k:Q () s):lp P (eqGuard o t x y (.agg c) (.agg A)) s Q X:=by
 rcases K with rfl | rfl <;> (simp [eqGuard,lp,bind,Sem.bind,program,pure,O];exact k)
end
end Pal
namespace Pal
open Go Go.Conc
section
variable {P:Program}(J:Judge P)(Q:Goroutine→St→Prop)(b:Frame)(n:Nat)(ds:List Deferred)(ops:Array Oper)(k:List Item)(cs:List Frame)(m:Nat)(D:Nat→Bool)
def Take(fuel:Nat)(listed:Array Bool)(L:Env)(s:St)(i:Nat):Prop:=
 ∃o,ops[i]? =some o∧(!B7 o.op)=true∧A2 n o.dst=true∧AS L ops o=some true∧∀ρ,Cw L ρ→lp P (execOp ρ o) (A8 D s) (fun nx s'=>match nx with
  | .value v=>Av J Q b n ds ops k cs m D fuel (AW listed i) (AH L o.dst v) (Bx D s s')
  | .skip=>Av J Q b n ds ops k cs m D fuel (AW listed i) (AH L o.dst undef) (Bx D s s')
  | .enter f args=>∃R,Ch J f args (Bx D s s') R∧∀v A,R v A→A.q=false∧(∀x o,(A8 D s).E x=some o→(A8 D A).E x=some o)∧Av J Q b n ds ops k cs m D fuel (AW listed i) (AH L o.dst v) A
  | _=>False) (fun _ _=>False)
end
section
variable {P:Program}{J:Judge P}{Q:Goroutine→St→Prop}{b:Frame}{n:Nat}{ds:List Deferred}{ops:Array Oper}{k:List Item}{cs:List Frame}{m fuel:Nat}{D:Nat→Bool}{listed:Array Bool}{L:Env}{s:St}{E E' H:LH}{S:List Seg}
variable {d:Option Tmp}{x y:Operand}{t u ty e:TypeId}{p:String}{af:Array Edge}{g:Option (Nat×Bool)}{v:Value}{i:Nat}{kd:IntKind}
theorem JG.Lx(O:s.q=false){l:List Nat}(A:Region.ready .any ops listed=l)(U:l≠ [])(h:∀i∈l,Take J Q b n ds ops k cs m D fuel listed L s i):Av J Q b n ds ops k cs m D (fuel+1) listed L s:=
 Av.each O (by rw [A];exact U) fun i hi o K=>by
  rw [A] at hi
  obtain⟨o',W,Z,aa,ab,ac⟩:=h i hi
  obtain rfl:o'=o:=by rw [W] at K;exact Option.some.inj K
  exact⟨Z,aa,true,ab,fun e=>(by cases e),fun _=>ac⟩
theorem JG.one(A:s.q=false)(K:Region.ready .any ops listed= [i])(h:Take J Q b n ds ops k cs m D fuel listed L s i):Av J Q b n ds ops k cs m D (fuel+1) listed L s:=
 JG.Lx A K (by simp) (by simpa using h)
theorem JG.two{i j:Nat}(A:s.q=false)(K:Region.ready .any ops listed= [i,j])(hi:Take J Q b n ds ops k cs m D fuel listed L s i)(O:Take J Q b n ds ops k cs m D fuel listed L s j):Av J Q b n ds ops k cs m D (fuel+1) listed L s:=
 JG.Lx A K (by simp) (by intro q A;simp at A;rcases A with rfl | rfl <;> assumption)
def plus(E:LH)(A:Nat)(o:Obj):LH:=fun x=>if x=A then Option.some o else E x
theorem Pz{jp A:Nat}{o:Obj}(aa:Az E H S)(ab:S[jp]? =Option.some [(A,o)]):A8 (AD [A]) (Ap E H S)=Ap (plus E A o) H (S.set jp [])∧Az (plus E A o) H (S.set jp []):=by
 obtain⟨ae,W⟩:=DR aa ab;have Z:=Nd.iff.1 W;have al:E A=Option.none:=(Z.2 (A,o) (by simp)).1;have ag:H A=Option.none:=(Z.2 (A,o) (by simp)).2;have ac:∀q∈(S.set jp []).flatten,q.1≠A:=fun q O e=>by
  have:=Z.1;rw [List.map_append,List.nodup_append] at this;exact this.2.2 q.1 (List.mem_map_of_mem O) A (by simp) e
 have ah:(Ap E H S).get A=Option.some o:=CI (i:=0) aa ab rfl;have ai:∀x,x≠A→AT ((S.set jp []).flatten++ [(A,o)]) H x=AT (S.set jp []).flatten H x:=fun x K=>by
  rw [show AT ((S.set jp []).flatten++ [(A,o)]) H=AT ([(A,o)]++(S.set jp []).flatten) H from GJ W List.perm_append_comm];simp [AT,K]
 refine⟨?_,?_⟩
 ·unfold A8;have aj:(fun x=>if AD [A] x=true then(Ap E H S).get x else(Ap E H S).E x)=plus E A o:=by
   funext x;unfold plus;by_cases K:x=A
   ·subst K;simp [AD,ah]
   ·simp [AD,K];rfl
  have ak:(fun x=>if AD [A] x=true then Option.none else(Ap E H S).H x)=AT (S.set jp []).flatten H:=by
   funext x;by_cases K:x=A
   ·subst K;simp [AD];rw [GL ac,ag]
   ·simp only [AD,List.contains_cons,List.contains_nil,Bool.or_false,beq_iff_eq,if_neg K];rw [ae];exact ai x K
  rw [aj,ak];rfl
 ·have U:Nd E H (S.set jp []).flatten:=JL.Fs.Nd.left W;show Nd _ H (S.set jp []).flatten;rw [Nd.iff] at U ⊢;exact⟨U.1,fun q O=>⟨by unfold plus;rw [if_neg (ac q O)];exact(U.2 q O).1,(U.2 q O).2⟩⟩
theorem N6{jp A:Nat}{o:Obj}{S':List Seg}(ah:Az E H S)(ai:S[jp]? =Option.some [(A,o)])(aj:Az (plus E A o) H S')(W:S'[jp]? =Option.some []):Bx (AD [A]) (Ap E H S) (Ap (plus E A o) H S')=Ap E H (S'.set jp [(A,o)])∧Az E H (S'.set jp [(A,o)]):=by
 obtain⟨ak,ab⟩:=DR ah ai;have ac:=Nd.iff.1 ab;have al:E A=Option.none:=(ac.2 (A,o) (by simp)).1;have am:H A=Option.none:=(ac.2 (A,o) (by simp)).2;have Z:(S'.set jp []).flatten=S'.flatten:=by
  have:S'.set jp []=S':=by
   apply List.ext_getElem?;intro q;rw [List.getElem?_set];split
   ·rename_i e;subst e;rw [W,if_pos (List.getElem?_eq_some_iff.1 W).1]
   ·rfl
  rw [this]
 have U:=Nd.iff.1 (show Nd _ H S'.flatten from aj);have ae:∀q∈S'.flatten,q.1≠A:=fun q K e=>by
  have:=(U.2 q K).1;unfold plus at this;rw [if_pos e] at this;cases this
 have aa:Nd E H ((S'.set jp []).flatten++ [(A,o)]):=by
  rw [Z,Nd.iff,List.map_append,List.nodup_append];refine⟨⟨U.1,by simp,fun x O y ag e=>?_⟩,fun q K=>?_⟩
  ·obtain⟨q,K,rfl⟩:=List.mem_map.1 O;simp at ag;subst ag;exact ae q K e
  ·rcases List.mem_append.1 K with K | K
   ·refine⟨?_,(U.2 q K).2⟩;have:=(U.2 q K).1;unfold plus at this
    rwa [if_neg (ae q K)] at this
   ·simp at K;subst K;exact⟨al,am⟩
 obtain⟨an,ao⟩:=ES (seg':= [(A,o)]) W aa;refine⟨?_,ao⟩;rw [← an,Z];unfold Bx Ap mk;congr 1
 ·funext x;show(if AD [A] x=true then E x else plus E A o x)=E x
  by_cases O:x=A
  ·subst O;simp [AD]
  ·simp [AD,O,plus]
 ·funext x;show(if AD [A] x=true then(Ap E H S).H x else AT S'.flatten H x)=AT (S'.flatten++ [(A,o)]) H x
  have ap:AT (S'.flatten++ [(A,o)]) H=AT ([(A,o)]++S'.flatten) H:=GJ (by rw [Z] at aa;exact aa) List.perm_append_comm;rw [ap];by_cases O:x=A
  ·subst O;simp only [AD,List.contains_cons,beq_self_eq_true,Bool.true_or,if_true,List.cons_append,List.nil_append,AT];rw [ak];show AT ((S.set jp []).flatten++ [(x,o)]) H x=_;rw [show AT ((S.set jp []).flatten++ [(x,o)]) H=AT ([(x,o)]++(S.set jp []).flatten) H from GJ ab List.perm_append_comm];simp [AT]
  ·simp [AD,O,AT]
end
end Pal
namespace Pal
open Go Go.Conc
theorem OL.Rh{α:Type}{e:TypeId}{pp:Rp α}{E0 E H:LH}{S:List Seg}{a:Option Addr}{c j:Nat}{seg:Seg}{xs:List α}(O:OL e pp E0 a c seg xs)(Z:Az E H S)(aa:S[j]? =some seg):∃wss:List (List Value),DG (Ap E H S) (.slice a xs.length c) pp.n wss.flatten∧wss.length=xs.length∧∀(i:Nat) x ws,xs[i]? =some x→wss[i]? =some ws→pp.r E0 ws x:=by
 obtain⟨wss,O,ab,ac⟩:=O;refine⟨wss,?_,ab,ac⟩;rcases O with⟨rfl,ae,W,U,A⟩ | ⟨ag,f,rfl,rfl,W,U,A⟩
 ·exact⟨ae,A⟩
 ·have hle:xs.length*pp.n≤f.size:=by rw [W];exact Nat.mul_le_mul_right _ U
  refine⟨rfl,by rw [A];simp [hle],U,fun q w K=>?_⟩;rw [A,List.getElem?_take] at K;split at K
  ·refine Ci Z aa ?_;simpa using K
  ·cases K
section
variable {P:Program}{E H:LH}{S:List Seg}{d:Option Tmp}{x y:Operand}{t ty e:TypeId}{p:String}{af:Array Edge}{g:Option (Nat×Bool)}
theorem LJ{E0:LH}{ρ:Operand→Value}{K:Next→St→Prop}{α:Type}{pp:Rp α}{t1:TypeId}{ak c cx:Nat}{a ax:Option Addr}{seg au:Seg}{xs ys al:List α}{ats:Array TypeId}{z:Value}(j aC:Nat)(ag:CY xs ys=some al)
  (aD:ρ x= .slice a xs.length c) (aE:ρ y= .slice ax ys.length cx) (aF:ats[0]? =some t) (aG:ats[1]? =some t1) (ht:P.underlying t=some (.slice e)) (aH:P.underlying t1=some (.slice e)) (aI:Bf P e=some pp.n) (hb:CH P e=some ak) (aJ:zeroOf P e=some z) (aK:z.cells.size=pp.n)
  (aL:0<ak) (aM:ak≤64) (ac:OL e pp E0 a c seg xs) (aN:OL e pp E0 ax cx au ys) (av:Az E H S) (aw:S[j]? =some seg) (aO:S[aC]? =some au)
  (h:∀O A g seg',OL e pp E0 O A seg' al→Az E H (S.set j (g++seg'))→K (.value (.slice O al.length A)) (Ap E H (S.set j (g++seg')))):
  lp P (execOp ρ ⟨d,.call ⟨.builtin .append,#[x,y],ats⟩,ty,p,af,g⟩) (Ap E H S) K (fun _ _=>False):=by
 unfold CY at ag;split at ag
 rotate_left
 ·cases ag
 rename_i aP;cases ag;obtain⟨ah,ay,ai,am⟩:=aN.Rh av aO;obtain⟨wss,ac,az,aQ⟩:=ac;obtain⟨aR,an⟩:=DR av aw;have aS:=Fq ai am;have aT:∀w∈ah.flatten,Bs w=true:=fun w hw=>by
  obtain⟨us,aU,hw⟩:=List.mem_flatten.1 hw;obtain⟨q,aA⟩:=List.mem_iff_getElem?.1 aU;have aV:q<ys.length:=by rw [← ai];exact(List.getElem?_eq_some_iff.1 aA).1
  exact pp.one (am q _ us (List.getElem?_eq_getElem aV) aA) w hw
 have hlen:(xs++ys).length=xs.length+ys.length:=by simp
 rw [aR] at ay ⊢;rw [Ht,aD,aE];have ao:∀{O A seg'},GS e pp.n O (xs.length+ys.length) A seg' (wss.flatten++ah.flatten)→OL e pp E0 O A seg' (xs++ys):=fun aW=>
  ⟨wss++ah,by rw [hlen,List.flatten_append];exact aW,by simp [az,ai],IH az aQ am⟩
 have fin:∀O A g seg',OL e pp E0 O A seg' (xs++ys)→Nd E H ((S.set j []).flatten++(g++seg'))→K (.value (.slice O (xs.length+ys.length) A)) (mk E H ((S.set j []).flatten++(g++seg'))):=fun O A g seg' aX U=>by
  obtain⟨aY,aZ⟩:=ES aw U;rw [aY];have:=h O A g seg' aX aZ;rw [hlen] at this;exact this
 have a0:H8 ((S.set j []).flatten++seg) (S.set j []).flatten.length e pp.n a xs.length c wss.flatten:=by
  rcases ac with⟨q1,q2,ae,Z,aa⟩ | ⟨ap,f,q1,q2,ae,Z,aa⟩
  ·exact .inl ⟨q1,q2,ae,aa⟩
  ·refine .inr ⟨ap,f,q1,?_,ae,Z,aa⟩;subst q2;simp
 refine AF _ _ (IM (pl:=(S.set j []).flatten.length) aF aG aH ht aI hb aJ aK an a0 ay aT aL aP aM ?_ ?_ ?_)
 ·intro ap f W aj a7 a8 a1 aq ar U;rcases ac with⟨q1,_⟩ | ⟨ab,f0,q1,q2,ae,Z,aa⟩
  ·rw [q1] at aj;cases aj
  ·subst q2;have a2:ab=ap:=by rw [q1] at aj;simpa using aj
   subst a2;have a3:((S.set j []).flatten++ [(ab,Obj.cells f0 e (0,0))]).set (S.set j []).flatten.length (ab,.cells W e (0,0))=(S.set j []).flatten++ [(ab,.cells W e (0,0))]:=Ft _ _ _ _;rw [a3] at U ⊢;exact fin a c [] _ (ao (.inr ⟨ab,W,q1,rfl,aq,a1,ar.symm⟩)) U
 ·intro aB hm;rcases ac with⟨q1,q2,ae,Z,aa⟩ | ⟨ab,f0,q1,_⟩
  ·have a4:ah.flatten= []:=List.eq_nil_of_length_eq_zero (by rw [Hv aS,ai,hm];simp);have:=fin none 0 [] [] (ao (by rw [q2,hm,aa,a4];exact GS.nil)) (by rw [Z] at an;simpa using an);rw [q2,hm] at this;rw [Z];simp only [List.append_nil] at this ⊢;exact this
  ·rw [q1] at aB;cases aB
 ·intro r W A a5 aq ar U;have a6:(S.set j []).flatten++seg++ [(r,Obj.cells W e (0,0))]=(S.set j []).flatten++(seg++ [(r,.cells W e (0,0))]):=List.append_assoc _ _ _;rw [a6] at U ⊢;exact fin (some ⟨r,0,none⟩) A seg _ (ao (.inr ⟨r,W,rfl,rfl,aq,a5,ar.symm⟩)) U
end
section
variable {P:Program}{J:Judge P}{Q:Goroutine→St→Prop}{b:Frame}{n:Nat}{ds:List Deferred}{ops:Array Oper}{k:List Item}{cs:List Frame}{m fuel:Nat}{D:Nat→Bool}{listed:Array Bool}{L:Env}{s:St}{E E' H:LH}{S:List Seg}
variable {d:Option Tmp}{x y:Operand}{t u ty e:TypeId}{p:String}{af:Array Edge}{g:Option (Nat×Bool)}{v:Value}{i:Nat}{kd:IntKind}
theorem Take.A8{jp A:Nat}{o:Obj}{oi:Oper}(O:Az E H S)(U:S[jp]? =some [(A,o)])(hi:ops[i]? =some oi)(K:(!B7 oi.op&&A2 n oi.dst)=true)(hw:AS L ops oi=some true)
  (h:∀ρ,Cw L ρ→Az (plus E A o) H (S.set jp [])→lp P (execOp ρ oi) (Ap (plus E A o) H (S.set jp [])) (fun nx s'=>∃v S',nx= .value v∧s'=Ap (plus E A o) H S'∧Az (plus E A o) H S'∧S'[jp]? =some []∧
   (Az E H (S'.set jp [(A,o)])→Av J Q b n ds ops k cs m (AD [A]) fuel (AW listed i) (AH L oi.dst v) (Ap E H (S'.set jp [(A,o)])))) (fun _ _=>False)):
  Take J Q b n ds ops k cs m (AD [A]) fuel listed L (Ap E H S) i:=by
 simp only [Bool.and_eq_true] at K;refine⟨oi,hi,K.1,K.2,hw,fun ρ W=>?_⟩;obtain⟨Z,aa⟩:=Pz O U;rw [Z];refine BV _ (h ρ W aa) ?_ (fun _ _ h=>h);rintro nx s' ⟨v,S',rfl,rfl,ab,ac,ae⟩;obtain⟨ag,ah⟩:=N6 O U ab ac;show Av J Q b n ds ops k cs m (AD [A]) fuel (AW listed i) (AH L oi.dst v) (Bx (AD [A]) (Ap E H S) (Ap (plus E A o) H S'));rw [ag];exact ae ah
theorem Su{A jp:Nat}{o:Obj}(O:Az E H S)(U:S[jp]? =some [(A,o)]):Le E (plus E A o):=fun x u K=>by
 have W:E A=none:=G0 O U
 unfold plus
 rw [if_neg (fun e=>by subst e;rw [W] at K;cases K)];exact K
theorem Take.lit{jp A:Nat}{o:Obj}{α:Type}{pp:Rp α}{len:Nat}{K:Array (Nat×Operand)}(vs:List Value){z:Value}(xs:List α)(Z:Az E H S)(O:S[jp]? =some [(A,o)])
  (aa:ops[i]? =some ⟨d,.buildSlice t len K,ty,p,af,g⟩) (hw:AS L ops ⟨d,.buildSlice t len K,ty,p,af,g⟩=some true) (ab:A2 n d=true)
  (ht:P.underlying t=some (.slice e)) (ac:Bf P e=some pp.n) (ae:zeroOf P e=some z) (ag:decide (0<len*pp.n∧len*pp.n≤2 ^ 24)=true)
  (ah:K.toList.mapM (fun q=>(ev L q.2).map fun v=>(q.1,v))=some ((vs.zipIdx 0).map fun q=>(q.2,q.1)))
  (ai:vs.length=len) (aj:xs.length=len) (ak:FB pp E xs vs)
  (h:∀r seg,OL e pp E (some ⟨r,0,none⟩) len seg xs→Az E H (S++ [seg])→Av J Q b n ds ops k cs m (AD [A]) fuel (AW listed i) (AH L d (.slice (some ⟨r,0,none⟩) xs.length len)) (Ap E H (S++ [seg]))):
  Take J Q b n ds ops k cs m (AD [A]) fuel listed L (Ap E H S) i:=by
 have U:jp<S.length:=(List.getElem?_eq_some_iff.1 O).1;refine Take.A8 Z O aa (by simp [B7,ab]) hw fun ρ al am=>Jb al vs xs ht ac ae ag ah ai aj ak am fun r seg an ao=>⟨_,S.set jp []++ [seg],rfl,rfl,ao,by rw [List.getElem?_append_left (by simpa using U)];simp [U],fun W=>?_⟩;have ap:(S.set jp []++ [seg]).set jp [(A,o)]=S++ [seg]:=by
  rw [List.set_append_left _ _ (by simpa using U),List.set_set];congr 1;apply List.ext_getElem?;intro q;rw [List.getElem?_set];split
  ·rename_i e;subst e;rw [O]
  ·rfl
 rw [ap] at W ⊢;exact h r seg an W
theorem Take.app{jp A:Nat}{o:Obj}{α:Type}{pp:Rp α}{t1:TypeId}{Z c cx:Nat}{a ax:Option Addr}{seg ae:Seg}{xs ys aa:List α}{ats:Array TypeId}{z:Value}(j K:Nat)(ai:Az E H S)(ab:S[jp]? =some [(A,o)])(aj:CY xs ys=some aa)
  (ak:ops[i]? =some ⟨d,.call ⟨.builtin .append,#[x,y],ats⟩,ty,p,af,g⟩) (hw:AS L ops ⟨d,.call ⟨.builtin .append,#[x,y],ats⟩,ty,p,af,g⟩=some true) (al:A2 n d=true)
  (am:ev L x=some (.slice a xs.length c)) (an:ev L y=some (.slice ax ys.length cx)) (ao:ats[0]? =some t) (ap:ats[1]? =some t1) (ht:P.underlying t=some (.slice e)) (aq:P.underlying t1=some (.slice e)) (ar:Bf P e=some pp.n) (hb:CH P e=some Z) (au:zeroOf P e=some z) (av:z.cells.size=pp.n)
  (aw:0<Z) (ay:Z≤64) (az:OL e pp E a c seg xs) (aA:OL e pp E ax cx ae ys) (aB:S[j]? =some seg) (aC:S[K]? =some ae) (aD:(j==jp)=false) (aE:(K==jp)=false)
  (h:∀O U g seg',OL e pp E O U seg' aa→Az E H (S.set j (g++seg'))→Av J Q b n ds ops k cs m (AD [A]) fuel (AW listed i) (AH L d (.slice O aa.length U)) (Ap E H (S.set j (g++seg')))):
  Take J Q b n ds ops k cs m (AD [A]) fuel listed L (Ap E H S) i:=by
 have aF:jp<S.length:=(List.getElem?_eq_some_iff.1 ab).1;have ac:j≠jp:=by simpa using aD
 have aG:K≠jp:=by simpa using aE
 refine Take.A8 ai ab ak (by simp [B7,al]) hw fun ρ ag aH=>LJ j K aj (ag _ _ am) (ag _ _ an) ao ap ht aq ar hb au av aw ay az aA aH (by rw [List.getElem?_set_ne (Ne.symm ac)];exact aB) (by rw [List.getElem?_set_ne (Ne.symm aG)];exact aC) fun O U W seg' aI aJ=>⟨_,(S.set jp []).set j (W++seg'),rfl,rfl,aJ,by rw [List.getElem?_set_ne ac];simp [aF],fun ah=>?_⟩;have aK:((S.set jp []).set j (W++seg')).set jp [(A,o)]=S.set j (W++seg'):=by
  rw [List.set_comm _ _ ac,List.set_set];congr 1;apply List.ext_getElem?;intro q;rw [List.getElem?_set];split
  ·rename_i e;subst e;rw [ab]
  ·rfl
 rw [aK] at ah ⊢;exact h O U W seg' aI ah
end
end Pal
namespace Pal
open Go Go.Conc
section
variable {P:Program}{J:Judge P}{Q:Goroutine→St→Prop}{b:Frame}{n:Nat}{ds:List Deferred}{ops:Array Oper}{k:List Item}{cs:List Frame}{m fuel:Nat}{D:Nat→Bool}{listed:Array Bool}{L:Env}{s:St}{E E' H:LH}{S:List Seg}
variable {d:Option Tmp}{x y:Operand}{t u ty e:TypeId}{p:String}{af:Array Edge}{g:Option (Nat×Bool)}{v:Value}{i:Nat}{kd:IntKind}
theorem Take.Iy{oi:Oper}(hi:ops[i]? =some oi)(A:(!B7 oi.op&&A2 n oi.dst)=true)(hw:AS L ops oi=some true)
  (h:∀ρ,Cw L ρ→lp P (execOp ρ oi) s (fun nx s'=>match nx with
   | .value v=>Av J Q b n ds ops k cs m CG fuel (AW listed i) (AH L oi.dst v) s'
   | .skip=>Av J Q b n ds ops k cs m CG fuel (AW listed i) (AH L oi.dst undef) s'
   | _=>False) (fun _ _=>False)):Take J Q b n ds ops k cs m CG fuel listed L s i:=by
 simp only [Bool.and_eq_true] at A
 refine⟨oi,hi,A.1,A.2,hw,fun ρ O=>BV _ (h ρ O) ?_ (fun _ _ h=>h)⟩
 intro nx s' K
 cases nx with
 | value v=>exact K
 | skip=>exact K
 | _=>exact K.elim
theorem Take.Hk{α:Type}{pp:Rp α}{len:Nat}{A:Array (Nat×Operand)}(vs:List Value){z:Value}(xs:List α)(K:Az E H S)
  (O:ops[i]? =some ⟨d,.buildSlice t len A,ty,p,af,g⟩) (hw:AS L ops ⟨d,.buildSlice t len A,ty,p,af,g⟩=some true) (U:A2 n d=true)
  (ht:P.underlying t=some (.slice e)) (W:Bf P e=some pp.n) (Z:zeroOf P e=some z) (aa:decide (0<len*pp.n∧len*pp.n≤2 ^ 24)=true)
  (ab:A.toList.mapM (fun q=>(ev L q.2).map fun v=>(q.1,v))=some ((vs.zipIdx 0).map fun q=>(q.2,q.1)))
  (ac:vs.length=len) (ae:xs.length=len) (ag:FB pp E xs vs)
  (h:∀r seg,OL e pp E (some ⟨r,0,none⟩) len seg xs→Az E H (S++ [seg])→Av J Q b n ds ops k cs m CG fuel (AW listed i) (AH L d (.slice (some ⟨r,0,none⟩) xs.length len)) (Ap E H (S++ [seg]))):
  Take J Q b n ds ops k cs m CG fuel listed L (Ap E H S) i:=
 Take.Iy O (by simp [B7,U]) hw fun ρ ah=>Jb ah vs xs ht W Z aa ab ac ae ag K fun r seg ai aj=>h r seg ai aj
theorem Take.app0{α:Type}{pp:Rp α}{t1:TypeId}{O c cx:Nat}{a ax:Option Addr}{seg W:Seg}{xs ys U:List α}{ats:Array TypeId}{z:Value}(j Z:Nat)(ab:Az E H S)(ac:CY xs ys=some U)
  (ae:ops[i]? =some ⟨d,.call ⟨.builtin .append,#[x,y],ats⟩,ty,p,af,g⟩) (hw:AS L ops ⟨d,.call ⟨.builtin .append,#[x,y],ats⟩,ty,p,af,g⟩=some true) (ag:A2 n d=true)
  (ah:ev L x=some (.slice a xs.length c)) (ai:ev L y=some (.slice ax ys.length cx)) (aj:ats[0]? =some t) (ak:ats[1]? =some t1) (ht:P.underlying t=some (.slice e)) (al:P.underlying t1=some (.slice e)) (am:Bf P e=some pp.n) (hb:CH P e=some O) (an:zeroOf P e=some z) (ao:z.cells.size=pp.n)
  (ap:0<O) (aq:O≤64) (ar:OL e pp E a c seg xs) (au:OL e pp E ax cx W ys) (av:S[j]? =some seg) (aw:S[Z]? =some W)
  (h:∀A K g seg',OL e pp E A K seg' U→Az E H (S.set j (g++seg'))→Av J Q b n ds ops k cs m CG fuel (AW listed i) (AH L d (.slice A U.length K)) (Ap E H (S.set j (g++seg')))):
  Take J Q b n ds ops k cs m CG fuel listed L (Ap E H S) i:=
 Take.Iy ae (by simp [B7,ag]) hw fun ρ aa=>LJ j Z ac (aa _ _ ah) (aa _ _ ai) aj ak ht al am hb an ao ap aq ar au ab av aw fun A K ay seg' az aA=>h A K ay seg' az aA
theorem Take.MC{z:Value}(K:Az E H S)(O:ops[i]? =some ⟨d,.alloc e,ty,p,af,g⟩)(hw:AS L ops ⟨d,.alloc e,ty,p,af,g⟩=some true)(U:A2 n d=true)(W:zeroOf P e=some z)
  (h:∀r,Az E H (S++ [[(r,.cells z.cells e (0,0))]])→Av J Q b n ds ops k cs m CG fuel (AW listed i) (AH L d (.pointer (some ⟨r,0,none⟩))) (Ap E H (S++ [[(r,.cells z.cells e (0,0))]]))):
  Take J Q b n ds ops k cs m CG fuel listed L (Ap E H S) i:=
 Take.Iy O (by simp [B7,U]) hw fun ρ _=>by
  show lp P (do pure (Next.value (← Instr.alloc e true (.tuple #[])))) _ _ _
  refine AF _ _ ?_
  unfold Instr.alloc
  refine AF _ _ (Dy W ?_)
  refine AF _ _ (Es K fun r A=>?_)
  rw [(CF A).1]
  exact h r (CF A).2
end
end Pal
namespace Pal
open Go Go.Conc
theorem DD{α:Type}{kk:Nat}{pp:Rp α}{E:LH}{ws:List Value}{xs:List α}(A:(rA kk pp).r E ws xs):ws.length=kk*pp.n:=(rA kk pp).len A
theorem Fj{α:Type}{kk:Nat}{pp:Rp α}{E:LH}{ws:List Value}{xs:List α}{m:Int}{x:α}(K:(rA kk pp).r E ws xs)(hm:ix xs m=some x):∃us,pp.r E us x∧0≤m∧m<kk∧(∀j w,us[j]? =some w→ws[m.toNat*pp.n+j]? =some w):=by
 obtain⟨O,wss,rfl,U,A⟩:=K;obtain⟨m,rfl,hm⟩:=EP hm;have Z:m<xs.length:=(List.getElem?_eq_some_iff.1 hm).1;have hw:wss[m]? =some wss[m]:=List.getElem?_eq_getElem (by omega);exact⟨wss[m],A m x _ hm hw,by omega,by omega,fun j w W=>Gb (Fq (U.trans O.symm) A) hw j w W⟩
section
variable {P:Program}{J:Judge P}{Q:Goroutine→St→Prop}{b:Frame}{n:Nat}{ds:List Deferred}{ops:Array Oper}{k:List Item}{cs:List Frame}{L:Env}{E H:LH}{S:List Seg}
variable {d:Option Tmp}{x y:Operand}{t u ty e:TypeId}{p:String}{af:Array Edge}{g:Option (Nat×Bool)}{i:Nat}{rest:List Nat}{kd:IntKind}{s:St}{ρ:Operand→Value}
theorem Yl.G3{α:Type}{kk:Nat}{pp:Rp α}{a:Addr}{ws:List Value}{xs:List α}(A:(rA kk pp).r E ws xs)(ht:Cm P t=some true)(K:Bf P t=some (kk*pp.n))(O:ρ x= .pointer (some a))(h:∀j v,ws[j]? =some v→s.cell? (a.add j)=some v):Yl P ⟨d,.load t x,ty,p,af,g⟩ ρ s (.agg ws.toArray):=
 Yl.Bh ht (by rw [DD A];exact K) O h
theorem JS.Sm{α:Type}{pp:Rp α}{kk:Nat}{ws:List Value}{xs:List α}{xv:α}{m:Int}{K:Bool}(U:(rA kk pp).r E ws xs)(hm:ix xs m=some xv)
  (ag:ops[i]? =some ⟨d,.index t x y,ty,p,af,g⟩) (hw:AS L ops ⟨d,.index t x y,ty,p,af,g⟩=some true) (ah:BC b n ⟨d,.index t x y,ty,p,af,g⟩=true)
  (ai:ev L x=some (.agg ws.toArray)) (aj:ev L y=some (.int kd m)) (ht:P.underlying t=some (.array kk e)) (W:Bf P e=some pp.n) (ak:Cm P e=some K)
  (h:∀us,pp.r E us xv→JL J Q b n (AH L d (if K then .agg us.toArray else us.headD undef)) ds (.inRegion ops rest::k) cs s) (al:K=false→pp.n=1):
  JL J Q b n L ds (.inRegion ops (i::rest)::k) cs s:=by
 obtain⟨us,Z,am,an,aa⟩:=Fj U hm;have hlen:=pp.len Z;have ao:=DD U;refine JL.y ag hw ah (fun ρ ab=>?_) (h us Z);refine Yl.Db (sm:=Instr.index t (ρ x) (ρ y)) rfl ?_;rw [ab _ _ ai,ab _ _ aj];unfold Instr.index;simp only [asIntOf,Eo];refine AF (x:=underlying t) _ (BU ht ?_);simp only [am,an,and_self,if_true];refine AF (x:=Go.sizeOf e) _ (CM W ?_);unfold Go.part;refine AF (x:=isAgg e) _ (GN ak ?_);have aq:m.toNat*pp.n+pp.n≤ws.length:=by
  rw [ao];have:(m.toNat+1)*pp.n≤kk*pp.n:=Nat.mul_le_mul_right _ (by omega);rw [Nat.succ_mul] at this;exact this
 cases K with
 | true=>
  simp only [if_true];refine AF (x:=Go.sizeOf e) _ (CM W ?_);have ap:ws.toArray.extract (m.toNat*pp.n) (m.toNat*pp.n+pp.n)=us.toArray:=by
   apply Array.ext_getElem?;intro j;by_cases ac:j<us.length
   ·have O:=aa j us[j] (List.getElem?_eq_getElem ac);simp only [Array.getElem?_extract,List.size_toArray,List.getElem?_toArray];rw [if_pos (by omega),O];simp [ac]
   ·rw [Array.getElem?_eq_none (by simp;omega),Array.getElem?_eq_none (by simp;omega)]
  rw [ap];exact⟨rfl,rfl⟩
 | false=>
  have ae:=al rfl;obtain⟨w,rfl⟩:∃w,us= [w]:=by
   match us,hlen with
   | [w],_=>exact⟨w,rfl⟩
   | [],A=>rw [ae] at A;cases A
   | _::_::_,A=>rw [ae] at A;simp at A
  have O:=aa 0 w rfl;simp only [Bool.false_eq_true,if_false,List.getElem?_toArray];rw [Nat.add_zero] at O;rw [O];exact⟨rfl,rfl⟩
end
end Pal
namespace Pal
open Go Go.Conc
theorem OL.Sx{α:Type}{e:TypeId}{pp:Rp α}{E:LH}{a:Option Addr}{c:Nat}{seg:Seg}{xs:List α}{m:Int}{x:α}(K:OL e pp E a c seg xs)(hm:ix xs m=some x):
  ∃A f ws,a=some ⟨A,0,none⟩∧seg= [(A,.cells f e (0,0))]∧pp.r E ws x∧(∀j w,ws[j]? =some w→f[m.toNat*pp.n+j]? =some w):=by
 obtain⟨m,rfl,hm⟩:=EP hm;obtain⟨A,f,ws,O,U,W,Z,_⟩:=OL.get K hm;exact⟨A,f,ws,O,U,W,Z⟩
def Ed(S:List Seg):List Nat→Prop
 | []=>True
 | A::bks=>(∃(j:Nat) (o:Obj),S[j]? =some [(A,o)])∧Ed S bks
theorem Ed.mem{S:List Seg}:∀{bks:List Nat},Ed S bks→∀A∈bks,∃(j:Nat) (o:Obj),S[j]? =some [(A,o)]
 | [],_,_,h=>by cases h
 | b::bks,h,A,hb=>by
  rcases List.mem_cons.1 hb with rfl | hb
  ·exact h.1
  ·exact h.2.mem A hb
theorem Ed.free{E H:LH}{S:List Seg}{bks:List Nat}(h:Ed S bks)(A:Az E H S):∀x,AD bks x=true→E x=none:=fun x K=>by
 obtain⟨j,o,O⟩:=h.mem x (by simpa [AD] using K)
 exact G0 A O
section
variable {P:Program}{J:Judge P}{Q:Goroutine→St→Prop}{b:Frame}{n:Nat}{ds:List Deferred}{ops:Array Oper}{k:List Item}{cs:List Frame}{m fuel:Nat}{D:Nat→Bool}{listed:Array Bool}{L:Env}{s:St}{E E' H:LH}{S:List Seg}
variable {d:Option Tmp}{x y:Operand}{t u ty e:TypeId}{p:String}{af:Array Edge}{g:Option (Nat×Bool)}{v:Value}{i:Nat}{kd:IntKind}
theorem JG.Ia{bks:List Nat}{f:FuncId}{args:Array Operand}{ats:Array TypeId}{vs:List Value}{R:Value→LH→Seg→Prop}(ae:Ed S bks)(ag:Au J f vs E [] R)(ah:Region.ready .any ops listed= [i])
  (ai:ops[i]? =some ⟨d,.call ⟨.value (.func f),args,ats⟩,ty,p,af,g⟩) (aj:A2 n d=true) (hw:AS L ops ⟨d,.call ⟨.value (.func f),args,ats⟩,ty,p,af,g⟩=some true) (hb:Cd P f=true) (ak:evs L args.toList=some vs) (Z:Az E H S)
  (al:∀v E' seg',Le E E'→R v E' seg'→Az E' H (S++ [seg'])→Av J Q b n ds ops k cs m (AD bks) fuel (AW listed i) (AH L d v) (Ap E' H (S++ [seg']))):
  Av J Q b n ds ops k cs m (AD bks) (fuel+1) listed L (Ap E H S):=by
 have am:=Ch.EZ (ag (AT S.flatten H) trivial) (by rintro v s' ⟨E',B',_,_,_,rfl⟩;rfl);refine Av.call rfl ah ai aj hw hb ak am ?_;rintro v ay ⟨⟨E',B',hle,an,ao,rfl⟩,w,ap⟩;have aq:mk E' (AT S.flatten H) B'=mk E' H (B'++S.flatten):=by unfold mk;rw [Dl]
 have ar:Nd E' H S.flatten:=Nd.grow Z fun x K=>by
  have au:=ap.d x K;have O:AT B' (AT S.flatten H) x=none:=au;exact(D5 O).1
 have aa:Nd E' H (B'++S.flatten):=Nd.glue ao ar;have ab:(B'++S.flatten).Perm (S++ [B']).flatten:=by rw [D7];exact List.perm_append_comm
 have ac:Az E' H (S++ [B']):=Nd.perm aa ab;rw [aq,CW aa ab];refine⟨rfl,fun x o K=>?_,al v E' B' hle an ac⟩;by_cases U:AD bks x=true
 ·obtain⟨j,o',W⟩:=ae.mem x (by simpa [AD] using U);have O:(Ap E H S).get x=some o':=CI (i:=0) Z W rfl;have av:j<S.length:=(List.getElem?_eq_some_iff.1 W).1;have aw:(Ap E' H (S++ [B'])).get x=some o':=CI (i:=0) ac (by rw [List.getElem?_append_left av];exact W) rfl;have A:(if AD bks x then(Ap E H S).get x else E x)=some o:=K
  show(if AD bks x then(Ap E' H (S++ [B'])).get x else E' x)=some o
  rw [if_pos U] at A ⊢;rw [aw,← O];exact A
 ·have A:(if AD bks x then(Ap E H S).get x else E x)=some o:=K
  show(if AD bks x then(Ap E' H (S++ [B'])).get x else E' x)=some o
  rw [if_neg U] at A ⊢;exact hle _ _ A
theorem JG.BX(m:Nat)(bks:List Nat){id:Nat}(K:Ed S bks)(O:Az E H S)(hm:P.follows .mixedOrders=true)(A:(b.kind != .early)=true)(ht:Dc ops m=true)
  (h:Dc ops m=true→Av J Q b n ds ops k cs m (AD bks) ops.size (Array.replicate ops.size false) L (Ap E H S)):JL J Q b n L ds (.code (.region id ops true)::k) cs (Ap E H S):=
 JL.MT m (AD bks) rfl hm A (h ht)
theorem Bb{bks:List Nat}{A o:Nat}{c:Array Value}{f:Nat×Nat}{w:Value}{s':St}(j:Nat)(K:Az E H S)(O:S[j]? =some [(A,.cells c e f)])(U:AD bks A=true)(hs:∀x o,(A8 (AD bks) (Ap E H S)).E x=some o→s'.E x=some o)(hw:c[o]? =some w):s'.cell? ⟨A,o,none⟩=some w:=by
 have W:(A8 (AD bks) (Ap E H S)).E A=some (.cells c e f):=by
  show(if AD bks A then(Ap E H S).get A else E A)=_
  rw [if_pos U];exact CI (i:=0) K O rfl
 have Z:=hs _ _ W;unfold St.cell? St.get;rw [Z];exact hw
theorem Ob{bks:List Nat}{A o:Nat}{c:Array Value}{f:Nat×Nat}{ws:List Value}{s':St}(j:Nat)(O:Az E H S)(U:S[j]? =some [(A,.cells c e f)])(W:AD bks A=true)(hs:∀x o,(A8 (AD bks) (Ap E H S)).E x=some o→s'.E x=some o)(hw:(c.toList.drop o).take ws.length=ws):∀q w,ws[q]? =some w→s'.cell? (Addr.add ⟨A,o,none⟩ q)=some w:=fun q w K=>by
 rw [Ba rfl]
 refine Bb j O U W hs ?_
 have Z:q<ws.length:=(List.getElem?_eq_some_iff.1 K).1
 rw [← hw,List.getElem?_take_of_lt Z,List.getElem?_drop,Array.getElem?_toList] at K
 exact K
theorem Cs{bks:List Nat}{s':St}(K:Az E H S)(hs:∀x o,(A8 (AD bks) (Ap E H S)).E x=some o→s'.E x=some o)(O:Ed S bks):∀x o,E x=some o→s'.E x=some o:=fun x o A=>hs x o (by
 show(if AD bks x then(Ap E H S).get x else E x)=some o
 rw [if_neg (fun U=>by rw [O.free K x U] at A;cases A)];exact A)
end
end Pal
namespace Pal
open Go Go.Conc
theorem Yl.Rm{P:Program}{s:St}{ρ:Operand→Value}{x y:Operand}{d:Option Tmp}{t ty e:TypeId}{p:String}{af:Array Edge}{g:Option (Nat×Bool)}{kd:IntKind}{α:Type}{xs:List α}{xv:α}{m:Int}{A c K:Nat}(hm:ix xs m=some xv)(ht:P.underlying t=some (.slice e))(O:Bf P e=some K)(U:ρ x= .slice (some ⟨A,0,none⟩) xs.length c)(W:ρ y= .int kd m):
  Yl P ⟨d,.indexAddr t x y,ty,p,af,g⟩ ρ s (.pointer (some ⟨A,m.toNat*K,none⟩)):=by
 obtain⟨m,rfl,hm⟩:=EP hm;have Z:m<xs.length:=(List.getElem?_eq_some_iff.1 hm).1;have:=Yl.HY (P:=P) (s:=s) (d:=d) (ty:=ty) (p:=p) (af:=af) (g:=g) ht O U W ⟨by omega,by omega⟩;rw [Ba rfl] at this;simpa using this
end Pal
namespace Pal
open Go Go.Conc
def EF(ws:List Value)(q:Nat)(us:List Value):List Value:=(AL ws.toArray q us).toList
theorem HC{ws us:List Value}{q:Nat}(h:q+us.length≤ws.length)(j:Nat):(EF ws q us)[j]? =if q≤j∧j<q+us.length then us[j - q]? else ws[j]? :=by
 unfold EF;rw [Array.getElem?_toList,Ko us _ q (by simpa using h)];simp
theorem NK{l ws us:List Value}{q:Nat}(h:q+us.length≤ws.length):AL (l++ws).toArray (l.length+q) us=(l++EF ws q us).toArray:=by
 apply Array.ext_getElem?;intro j;rw [Ko us _ _ (by simp;omega)];simp only [List.getElem?_toArray];by_cases K:l.length+q≤j∧j<l.length+q+us.length
 ·rw [if_pos K,List.getElem?_append_right (by omega),HC h,if_pos (by omega)];congr 1;omega
 ·rw [if_neg K];rcases Nat.lt_or_ge j l.length with A | A
  ·rw [List.getElem?_append_left A,List.getElem?_append_left A]
  ·rw [List.getElem?_append_right A,List.getElem?_append_right A,HC h,if_neg (by omega)]
theorem KX{ws us:List Value}(h:us.length=ws.length):EF ws 0 us=us:=by
 apply List.ext_getElem?;intro j;rw [HC (by omega)];split
 ·simp
 ·rename_i A;rw [List.getElem?_eq_none (by omega),List.getElem?_eq_none (by omega)]
theorem HD{E H:LH}{S:List Seg}{A:Nat}{l ws:List Value}{e:TypeId}{f:Nat×Nat}(j:Nat)(K:Az E H S)(O:S[j]? =some [(A,.cells (l++ws).toArray e f)]):∀q v,ws[q]? =some v→(Ap E H S).cell? (Addr.add ⟨A,l.length,none⟩ q)=some v:=fun q v U=>by
 rw [Ba rfl]
 refine Ci K O ?_
 simp only [List.getElem?_toArray]
 rw [List.getElem?_append_right (by omega)]
 rw [show l.length+q - l.length=q by omega];exact U
theorem Oq{E H:LH}{S:List Seg}{A o:Nat}{l ws:List Value}{e:TypeId}{f:Nat×Nat}{w:Value}(j:Nat)(K:Az E H S)(O:S[j]? =some [(A,.cells (l++ws).toArray e f)])(U:ws[o]? =some w):(Ap E H S).cell? ⟨A,l.length+o,none⟩=some w:=by
 have:=HD j K O o w U
 rwa [Ba rfl] at this
theorem Jd{α:Type}{kk:Nat}{pp:Rp α}{E:LH}{ws us:List Value}{xs:List α}{m:Int}{x y:α}(W:(rA kk pp).r E ws xs)(hm:ix xs m=some x)(hu:pp.r E us y):(rA kk pp).r E (EF ws (m.toNat*pp.n) us) (xs.set m.toNat y)∧m.toNat*pp.n+us.length≤ws.length:=by
 have ai:=DD W;obtain⟨Z,wss,rfl,aa,ab⟩:=W;obtain⟨m,rfl,hm⟩:=EP hm;have aj:m<xs.length:=(List.getElem?_eq_some_iff.1 hm).1;have ac:=pp.len hu;have ak:=Fq (aa.trans Z.symm) ab;have ae:m*pp.n+us.length≤wss.flatten.length:=by
  rw [ai,ac];have:(m+1)*pp.n≤kk*pp.n:=Nat.mul_le_mul_right _ (by omega);rw [Nat.succ_mul] at this;exact this
 simp only [Int.toNat_natCast];refine⟨⟨by simpa using Z,wss.set m us,?_,by simpa using aa,fun i al am K O=>?_⟩,ae⟩
 ·apply List.ext_getElem?;intro j;rw [HC ae];have key:∀(wss:List (List Value)) (m:Nat) (hm:m<wss.length),(∀ws∈wss,ws.length=pp.n)→∀j,(wss.set m us).flatten[j]? =if m*pp.n≤j∧j<m*pp.n+us.length then us[j - m*pp.n]? else wss.flatten[j]? :=by
   intro wss
   induction wss with
   | nil=>intro m hm;simp at hm
   | cons vs wss an=>
    intro m hm ag j;have ao:vs.length=pp.n:=ag vs (by simp);cases m with
    | zero=>
     simp only [List.set_cons_zero,List.flatten_cons,Nat.zero_mul,Nat.zero_le,true_and,Nat.zero_add,Nat.sub_zero];split
     ·rename_i A;rw [List.getElem?_append_left A]
     ·rename_i A;rw [List.getElem?_append_right (by omega),List.getElem?_append_right (by omega),ac,ao]
    | succ m=>
     simp only [List.set_cons_succ,List.flatten_cons];have U:(m+1)*pp.n=m*pp.n+pp.n:=Nat.succ_mul _ _;rcases Nat.lt_or_ge j vs.length with A | A
     ·rw [List.getElem?_append_left A,List.getElem?_append_left A,if_neg (by omega)]
     ·rw [List.getElem?_append_right A,List.getElem?_append_right A,an m (by simpa using hm) (fun ws ap=>ag ws (List.mem_cons_of_mem _ ap))];by_cases ah:m*pp.n≤j - vs.length∧j - vs.length<m*pp.n+us.length
      ·rw [if_pos ah,if_pos (by omega)];congr 1;omega
      ·rw [if_neg ah,if_neg (by omega)]
  exact(key wss m (by omega) ak j).symm
 ·rw [List.getElem?_set] at K O;by_cases U:m=i
  ·subst U;rw [if_pos rfl,if_pos aj] at K;rw [if_pos rfl,if_pos (by omega)] at O;cases K;cases O;exact hu
  ·rw [if_neg U] at K O;exact ab i al am K O
theorem Gm{α:Type}{kk:Nat}{pp:Rp α}{E:LH}{w:Value}{x:α}(h:pp.r E [w] x):(rA kk pp).r E (List.replicate kk w) (List.replicate kk x):=by
 refine⟨by simp,List.replicate kk [w],?_,by simp,fun i y us A hu=>?_⟩
 ·induction kk with
  | zero=>rfl
  | succ k K=>rw [List.replicate_succ,List.replicate_succ,List.flatten_cons,← K];rfl
 ·have O:=List.eq_of_mem_replicate (List.mem_of_getElem? A);have U:=List.eq_of_mem_replicate (List.mem_of_getElem? hu);subst O U;exact h
section
variable {P:Program}{J:Judge P}{Q:Goroutine→St→Prop}{b:Frame}{n:Nat}{ds:List Deferred}{ops:Array Oper}{k:List Item}{cs:List Frame}{L:Env}{E H:LH}{S:List Seg}
variable {d:Option Tmp}{x y:Operand}{t u ty e:TypeId}{p:String}{af:Array Edge}{g:Option (Nat×Bool)}{i:Nat}{rest:List Nat}{kd:IntKind}{s:St}{ρ:Operand→Value}
theorem Yl.Gt{α:Type}{kk:Nat}{pp:Rp α}{ws:List Value}{xs:List α}{xv:α}{m:Int}{A o:Nat}(K:(rA kk pp).r E ws xs)(hm:ix xs m=some xv)(ht:P.underlying t=some (.array kk e))(O:Bf P e=some pp.n)(U:ρ x= .pointer (some ⟨A,o,none⟩))(W:ρ y= .int kd m):
  Yl P ⟨d,.indexAddr t x y,ty,p,af,g⟩ ρ s (.pointer (some ⟨A,o+m.toNat*pp.n,none⟩)):=by
 obtain⟨us,ab,Z,aa,ac⟩:=Fj K hm;have:=Yl.L9 (P:=P) (s:=s) (d:=d) (ty:=ty) (p:=p) (af:=af) (g:=g) ht O U W ⟨Z,aa⟩;rw [Ba rfl] at this;exact this
theorem JS.GW{A o:Nat}{l ws us:List Value}{v:Value}(j:Nat)(U:ops[i]? =some ⟨d,.store t x y,ty,p,af,g⟩)(hw:AS L ops ⟨d,.store t x y,ty,p,af,g⟩=some true)(W:BC b n ⟨d,.store t x y,ty,p,af,g⟩=true)(Z:Az E H S)
  (aa:ev L x=some (.pointer (some ⟨A,l.length+o,none⟩))) (ab:ev L y=some v) (K:v.cells.toList=us) (ac:Bf P t=some us.length) (ae:∀u∈us,Bs u=true) (ag:S[j]? =some [(A,.cells (l++ws).toArray e (0,0))]) (hle:o+us.length≤ws.length)
  (h:Az E H (S.set j [(A,.cells (l++EF ws o us).toArray e (0,0))])→JL J Q b n (AH L d undef) ds (.inRegion ops rest::k) cs (Ap E H (S.set j [(A,.cells (l++EF ws o us).toArray e (0,0))]))):
  JL J Q b n L ds (.inRegion ops (i::rest)::k) cs (Ap E H S):=by
 have ah:v.cells.size=us.length:=by rw [← K];simp
 refine JS.store (v:=v) (off:=l.length+o) j U hw W Z aa ab (by rw [ah];exact ac) (by rw [K];exact ae) ag (by simp;omega) fun O=>?_;rw [K,NK hle] at O ⊢;exact h O
theorem JL.Rz{todo:List Item}{K A:Type}{body:K→Option (AU K A)}{f:Nat}{O:K}{a:A}(U:iter body f O=some a)(I:Env→St→K→Prop)(Z:I L s O)
  (round:∀L s x,I L s x→(∀W,body x=some (.done W)→W=a)→(∃st,body x=some st)→(∀L' s' x',I L' s' x'→body x=some (.more x')→JL J Q b n L' ds todo cs s')→JL J Q b n L ds todo cs s):
  JL J Q b n L ds todo cs s:=by
 induction f generalizing L s O with
 | zero=>cases U
 | succ f aa=>
  exact round L s O Z (fun W h=>Kt U h) (KG U) fun L' s' x' ab hb=>aa (Kz U hb) ab
end
end Pal
namespace Pal
open Go Go.Conc
section
variable {P:Program}{s:St}{ρ:Operand→Value}{x y z:Operand}{d:Option Tmp}{t u ty e:TypeId}{p:String}{af:Array Edge}{g:Option (Nat×Bool)}{v v':Value}{E:LH}
structure JM (P:Program) (e:TypeId) (kd:IntKind) (f:Field):Prop where
 ht:P.underlying e=some (.struct #[f])
 hs:P.stoodInHeld e=false
 n1:f.name≠ "_"
 u1:P.underlying f.type=some (.int kd)
 o1:f.offset=0
theorem Qy{n:Nat}{kd:IntKind}{a b:Int}(ht:P.underlying t=some (.int kd)){Q:Bool→St→Prop}{X:Halt→St→Prop}(k:Q (a==b) s):lp P (Op.equalIn (n+1) t (.int kd a) (.int kd b)) s Q X:=by
 unfold Op.equalIn;refine AF _ _ (BU ht ?_);simp only [if_true];exact k
theorem OM{n:Nat}{kd:IntKind}{f:Field}{a b:Int}(h:JM P e kd f){Q:Bool→St→Prop}{X:Halt→St→Prop}(k:Q (decide (a=b)) s):lp P (Op.equalIn (n+2) e (.agg #[.int kd a]) (.agg #[.int kd b])) s Q X:=by
 unfold Op.equalIn;refine AF _ _ (BU h.ht ?_);refine AF (x:=program) _ ?_;show lp P (if P.stoodInHeld e=true then _ else _) s _ _
 rw [if_neg (by rw [h.hs];exact Bool.false_ne_true)];have A:Cm P f.type=some false:=by unfold Cm;rw [h.u1]
 dsimp only;rw [← Array.forIn_toList];simp only [List.forIn_cons,List.forIn_nil];refine AF _ _ (AF _ _ ?_);rw [if_pos h.n1,h.o1];refine AF _ _ (LF (v:= .int kd a) A rfl ?_);refine AF _ _ (LF (v:= .int kd b) A rfl ?_);refine AF _ _ (Qy h.u1 ?_);by_cases h:a=b
 ·subst h;simpa [lp,pure] using k
 ·simpa [lp,pure,h] using k
theorem La{c:Array Value}{off:Nat}{w:Value}(ht:Cm P e=some true)(A:Bf P e=some 1)(hw:c[off]? =some w){Q:Value→St→Prop}{X:Halt→St→Prop}(k:Q (.agg #[w]) s):lp P (part e c off) s Q X:=by
 unfold Go.part;refine AF (x:=isAgg e) _ (GN ht ?_);simp only [if_true];refine AF (x:=Go.sizeOf e) _ (CM A ?_);have K:c.extract off (off+1)= #[w]:=by
  have O:off<c.size:=(Array.getElem?_eq_some_iff.1 hw).1;apply Array.ext_getElem?;intro j;simp only [Array.getElem?_extract];cases j with
  | zero=>rw [if_pos (by omega)];simpa using hw
  | succ j=>rw [if_neg (by omega)];simp
 show Q (.agg (c.extract off (off+1))) s;rw [K];exact k
theorem OH{n kk:Nat}{kd:IntKind}{f:Field}{ws ws':List Value}{xs A:List Nat}(ht:P.underlying t=some (.array kk e))(h:JM P e kd f)(Z:Bf P e=some 1)(W:(rA kk (rN kd)).r E ws xs)(ae:(rA kk (rN kd)).r E ws' A)
  {Q:Bool→St→Prop} {X:Halt→St→Prop} (k:Q (decide (xs=A)) s):lp P (Op.equalIn (n+3) t (.agg ws.toArray) (.agg ws'.toArray)) s Q X:=by
 have ag:Cm P e=some true:=by unfold Cm;rw [h.ht]
 have aw:=W.1;have ay:=ae.1;have at_:∀{ws:List Value} {xs:List Nat},(rA kk (rN kd)).r E ws xs→∀i,i<kk→∃a,xs[i]? =some a∧ws[i]? =some (.int kd ((a:Nat):Int)):=by
  intro ws xs W i hi;obtain⟨a,ah⟩:∃a,xs[i]? =some a:=⟨_,List.getElem?_eq_getElem (by rw [W.1];exact hi)⟩;obtain⟨us,ak,_,_,al⟩:=Fj (m:=(i:Int)) W (by unfold ix;simp;exact ah);have am:us= [.int kd ((a:Nat):Int)]:=ak;subst am;have:=al 0 _ rfl;simp [rN] at this;exact⟨_,ah,this⟩
 unfold Op.equalIn;refine AF _ _ (BU ht ?_);refine AF (x:=Go.sizeOf e) _ (CM Z ?_)
 dsimp only;simp only [Std.Legacy.Range.forIn_eq_forIn_range',Std.Legacy.Range.size,Nat.sub_zero,Nat.add_one_sub_one,Nat.div_one];let an:Nat→Option Bool×Unit→Sem (ForInStep (Option Bool×Unit)):=fun i _=>do
  if !(← Op.equalIn (n+2) e (← Go.part e ws.toArray (i*1)) (← Go.part e ws'.toArray (i*1))) then pure (ForInStep.done (some false,())) else pure (ForInStep.yield (none,()))
 have key:∀(m st:Nat),st+m=kk→(∀i,i<st→xs[i]? =A[i]?)→∀{K:Option Bool×Unit→St→Prop},K (if xs=A then(none,()) else(some false,())) s→lp P (forIn (List.range' st m) (none,()) an:Sem _) s K X:=by
  intro m
  induction m with
  | zero=>
   intro st ao aa K O;have U:xs=A:=by
    apply List.ext_getElem?;intro i;rcases Nat.lt_or_ge i st with hi | hi
    ·exact aa i hi
    ·rw [List.getElem?_eq_none (by omega),List.getElem?_eq_none (by omega)]
   rw [if_pos U] at O;simp only [List.range'_zero,List.forIn_nil];exact O
  | succ m ap=>
   intro st ao aa K O;simp only [List.range'_succ,List.forIn_cons];obtain⟨a,ab,aq⟩:=at_ W st (by omega);obtain⟨c,ac,ar⟩:=at_ ae st (by omega);refine AF _ _ ?_;refine AF _ _ (La ag Z (by rw [Nat.mul_one];simpa using aq) ?_);refine AF _ _ (La ag Z (by rw [Nat.mul_one];simpa using ar) ?_);refine AF _ _ (OM h ?_);by_cases ai:a=c
   ·subst ai;simp only [decide_true,Bool.not_true,Bool.false_eq_true,if_false,lp,pure];exact ap (st+1) (by omega) (fun i hi=>by
     rcases Nat.lt_or_ge i st with aj | aj
     ·exact aa i aj
     ·obtain rfl:i=st:=by omega
      rw [ab,ac]) O
   ·have au:¬xs=A:=fun q=>ai (by rw [q] at ab;rw [ab] at ac;exact Option.some.inj ac);rw [if_neg au] at O;have av:¬((a:Nat):Int)=((c:Nat):Int):=by omega
    simp only [av,decide_false,Bool.not_false,if_true,lp,pure];exact O
 refine AF _ _ (key kk 0 (by omega) (fun i hi=>by omega) ?_);by_cases U:xs=A
 ·rw [if_pos U];simpa [lp,pure,U] using k
 ·rw [if_neg U];simpa [lp,pure,U] using k
def M7(P:Program)(e:TypeId)(kd:IntKind):Prop:=∃f,JM P e kd f
theorem Yl.RR{kk:Nat}{kd:IntKind}{ws ws':List Value}{xs A:List Nat}(ht:P.underlying t=some (.array kk e))(K:P.eqGuardType P.depth t=false)(O:M7 P e kd)(U:Bf P e=some 1)(W:(rA kk (rN kd)).r E ws xs)(Z:(rA kk (rN kd)).r E ws' A)
  (aa:ρ x= .agg ws.toArray) (ab:ρ y= .agg ws'.toArray):Yl P ⟨d,.binOp .neq t x y u,ty,p,af,g⟩ ρ s (.bool (decide (xs≠A))):=by
 obtain⟨f,h⟩:=O;refine Yl.Db (sm:=do eqGuard .neq t x y (ρ x) (ρ y);binOp .neq t (ρ x) (ρ y)) rfl ?_
 rw [aa,ab];refine AF _ _ (Og (.inr rfl) K ?_);have hb:binOp .neq t (.agg ws.toArray) (.agg ws'.toArray)=(do pure (.bool (!(← Op.equal t (.agg ws.toArray) (.agg ws'.toArray))))):=rfl
 rw [hb];refine AF (x:=Op.equal t _ _) _ ?_;unfold Op.equal Op.maxDepth;exact OH ht h U W Z ⟨by simp,rfl⟩
end
theorem OP{E H:LH}{S:List Seg}{A o:Nat}{l ws:List Value}{e:TypeId}{f:Nat×Nat}{w:Value}(j:Nat)(O:Az E H S)(U:S[j]? =some [(A,.cells (l++ws).toArray e f)])(K:l[o]? =some w):(Ap E H S).cell? ⟨A,o,none⟩=some w:=by
 refine Ci O U ?_;simp only [List.getElem?_toArray];rw [List.getElem?_append_left (List.getElem?_eq_some_iff.1 K).1];exact K
theorem IS{E H:LH}{S:List Seg}{bks:List Nat}{A:Nat}{l ws:List Value}{e:TypeId}{f:Nat×Nat}{s':St}(j:Nat)(K:Az E H S)(O:S[j]? =some [(A,.cells (l++ws).toArray e f)])(U:AD bks A=true)(hs:∀x o,(A8 (AD bks) (Ap E H S)).E x=some o→s'.E x=some o):∀q v,ws[q]? =some v→s'.cell? (Addr.add ⟨A,l.length,none⟩ q)=some v:=fun q v W=>by
 rw [Ba rfl]
 refine Bb j K O U hs ?_
 simp only [List.getElem?_toArray]
 rw [List.getElem?_append_right (by omega)]
 rw [show l.length+q - l.length=q by omega];exact W
end Pal
namespace Pal
open Go Go.Conc
def JV(t1 t2:TypeId)(v:Value):Option (Int×Option Int)→Prop
 | none=>v= .nilIface
 | some (m,none)=>v= .iface t1 (.agg #[iV m])
 | some (m,some a)=>v= .iface t2 (.agg #[iV m,iV a])
def JU:Option (Int×Option Int)→Value
 | some (m,none)=> .agg #[iV m]
 | _=> .agg #[iV 0]
def JN:Option (Int×Option Int)→Value
 | some (m,some a)=> .agg #[iV m,iV a]
 | _=> .agg #[iV 0,iV 0]
def Hh:Option (Int×Option Int)→Bool
 | some (_,none)=>true
 | _=>false
def Hi:Option (Int×Option Int)→Bool
 | some (_,some _)=>true
 | _=>false
section
variable {P:Program}{s:St}{ρ:Operand→Value}{x y z:Operand}{d:Option Tmp}{t u ty e xt t1 t2:TypeId}{p:String}{af:Array Edge}{g:Option (Nat×Bool)}{v v':Value}{o:Option (Int×Option Int)}
theorem Yl.PV{f1:Array Field}(K:P.underlying t1=some (.struct f1))(A:zeroOf P t1=some (.agg #[iV 0]))(O:t2≠t1)(he:JV t1 t2 v o)(U:ρ x=v):Yl P ⟨d,.typeAssert x xt t1 true,ty,p,af,g⟩ ρ s (.tuple #[JU o,.bool (Hh o)]):=by
 refine Yl.Db (sm:=Instr.typeAssert (ρ x) xt t1 true) rfl ?_;rw [U];unfold Instr.typeAssert;refine AF _ _ (BU K ?_)
 match o,he with
 | none,he=>obtain rfl:v= .nilIface:=he;exact AF (x:=zeroValue t1) _ (Dy A ⟨rfl,rfl⟩)
 | some (m,none),he=>obtain rfl:v= .iface t1 (.agg #[iV m]):=he;simp [lp,pure,JU,Hh]
 | some (m,some a),he=>
  obtain rfl:v= .iface t2 (.agg #[iV m,iV a]):=he;simp only [if_neg O];exact AF (x:=zeroValue t1) _ (Dy A ⟨rfl,rfl⟩)
theorem Yl.PU{f1:Array Field}(K:P.underlying t2=some (.struct f1))(A:zeroOf P t2=some (.agg #[iV 0,iV 0]))(O:t1≠t2)(he:JV t1 t2 v o)(U:ρ x=v):Yl P ⟨d,.typeAssert x xt t2 true,ty,p,af,g⟩ ρ s (.tuple #[JN o,.bool (Hi o)]):=by
 refine Yl.Db (sm:=Instr.typeAssert (ρ x) xt t2 true) rfl ?_;rw [U];unfold Instr.typeAssert;refine AF _ _ (BU K ?_)
 match o,he with
 | none,he=>obtain rfl:v= .nilIface:=he;exact AF (x:=zeroValue t2) _ (Dy A ⟨rfl,rfl⟩)
 | some (m,none),he=>
  obtain rfl:v= .iface t1 (.agg #[iV m]):=he;simp only [if_neg O];exact AF (x:=zeroValue t2) _ (Dy A ⟨rfl,rfl⟩)
 | some (m,some a),he=>obtain rfl:v= .iface t2 (.agg #[iV m,iV a]):=he;simp [lp,pure,JN,Hi]
end
def Ng{P:Program}(J:Judge P)(v:Value)(args:Array Value)(s:St)(R:Value→St→Prop):Prop:=
 ∀(Q:Goroutine→St→Prop) (c:Frame) (cs:List Frame),(∀w s',R w s'→J.ok Q (G (c.finish w) cs) s')→
  lp P (do let d ← Deferred.ofValue v args;invoke d.target d.args) s (fun nx s'=>match nx with
   | .enter f a=>J.ok Q (G (Frame.enter P f a .normal) (c::cs)) s'
   | .round l f A as K=>J.ok Q (G (Frame.round l f A as K .normal) (c::cs)) s'
   | _=>False) (fun _ _=>False)
def CJ{P:Program}(J:Judge P)(v:Value)(args:List Value)(E:LH)(B:Seg)(R:Value→LH→Seg→Prop):Prop:=
 ∀H,Nd E H B→Ng J v args.toArray (mk E H B) (fun v s'=>∃E' B',Le E E'∧R v E' B'∧Nd E' H B'∧s'=mk E' H B')
section
variable {P:Program}{J:Judge P}{Q:Goroutine→St→Prop}{b:Frame}{n:Nat}{L:Env}{ds:List Deferred}{k:List Item}{cs:List Frame}{E:LH}{H:LH}{S:List Seg}{i:Nat}{rest:List Nat}{d:Option Tmp}{ty e t:TypeId}{p:String}{af:Array Edge}{g:Option (Nat×Bool)}{ops:Array Oper}
theorem CJ.ofFn{f:FuncId}{caps vs:List Value}{B:Seg}{R:Value→LH→Seg→Prop}(hb:Cd P f=true)(h:Au J f (vs++caps) E B R):CJ J (.func (.func f) #[] caps.toArray) vs E B R:=fun H A Q c cs K=>by
 simp only [Deferred.ofValue,bind,Sem.bind,pure,invoke]
 have e: #[]++vs.toArray++caps.toArray=(vs++caps).toArray:=by simp
 rw [e];exact FG hb (h H A Q c cs K)
theorem JL.Qx{x:Operand}{K:Value}{args:Array Operand}{ats:Array TypeId}{s:St}{vs:List Value}{R:Value→St→Prop}
  (U:ops[i]? =some ⟨d,.call ⟨.value x,args,ats⟩,ty,p,af,g⟩) (hw:AS L ops ⟨d,.call ⟨.value x,args,ats⟩,ty,p,af,g⟩=some true) (O:((b.kind != .early)&&A2 n d)=true)
  (W:ev L x=some K) (Z:evs L args.toList=some vs) (aa:Ng J K vs.toArray s R) (ab:∀v s',R v s'→JL J Q b n (AH L d v) ds (.inRegion ops rest::k) cs s'):
  JL J Q b n L ds (.inRegion ops (i::rest)::k) cs s:=fun T A=>by
 simp only [Bool.and_eq_true] at O
 have ac:args.map (A9 T)=vs.toArray:=by
  rw [← Dz A.Dr Z];apply Array.ext';simp
 refine Judge.oper U (BM A hw) (by simpa using O.1) (.inr fun c ae=>by cases ae) ?_;have ag:lp P (execOp (A9 T) ⟨d,.call ⟨.value x,args,ats⟩,ty,p,af,g⟩) s (upon J Q b T ds ops i rest k cs d) (Ha J Q b T ds ops i rest k cs):=by
  have ah:execOp (A9 T) ⟨d,.call ⟨.value x,args,ats⟩,ty,p,af,g⟩=(do let d ← Deferred.ofValue K vs.toArray;invoke d.target d.args):=by
   simp only [execOp,resolve,ac,A.Dr _ _ W]
  rw [ah];refine BV _ (aa Q (fr b T ds (.inRegion ops (i::rest)::k)) cs fun v s' ai=>?_) (fun nx s' h=>?_) (fun _ _ h=>h.elim)
  ·rw [Dm (o:=⟨d,.call ⟨.value x,args,ats⟩,ty,p,af,g⟩) _ _ _ _ _ U];exact ab v s' ai _ (A.put O.2 v)
  ·cases nx <;> first | exact h | exact h.elim
 exact ag
theorem JS.Gw{x:Operand}{K:Value}{args:Array Operand}{ats:Array TypeId}{vs:List Value}{seg:Seg}{R:Value→LH→Seg→Prop}(j:Nat)
  (ac:CJ J K vs E seg R) (ae:ops[i]? =some ⟨d,.call ⟨.value x,args,ats⟩,ty,p,af,g⟩) (hw:AS L ops ⟨d,.call ⟨.value x,args,ats⟩,ty,p,af,g⟩=some true) (ag:((b.kind != .early)&&A2 n d)=true)
  (A:ev L x=some K) (ah:evs L args.toList=some vs) (O:Az E H S) (U:S[j]? =some seg) (ai:∀v E' seg',Le E E'→R v E' seg'→Az E' H (S.set j seg')→JL J Q b n (AH L d v) ds (.inRegion ops rest::k) cs (Ap E' H (S.set j seg'))):
  JL J Q b n L ds (.inRegion ops (i::rest)::k) cs (Ap E H S):=by
 have W:S.flatten.Perm (seg++(S.set j []).flatten):=(Co (seg':=seg) U).1.trans List.perm_append_comm;have Z:Nd E H (seg++(S.set j []).flatten):=Nd.perm O W;have aj:Ap E H S=mk E (AT (S.set j []).flatten H) seg:=by
  rw [show Ap E H S=mk E H S.flatten from rfl,CW O W];unfold mk;rw [Dl]
 rw [aj];refine JL.Qx ae hw ag A ah (ac _ (Nd.front Z)) ?_;rintro v s' ⟨E',B',hle,ak,al,rfl⟩;have am:mk E' (AT (S.set j []).flatten H) B'=mk E' H (B'++(S.set j []).flatten):=by unfold mk;rw [Dl]
 have an:Nd E H (S.set j []).flatten:=by
  have:=Z;rw [Nd.iff] at this ⊢;rw [List.map_append,List.nodup_append] at this;exact⟨this.1.2.1,fun q ao=>this.2 q (List.mem_append_right _ ao)⟩
 refine JL.EZ rfl fun⟨w,ap⟩=>?_;have aq:Nd E' H (S.set j []).flatten:=an.grow fun x A=>by
  have ar:=ap.d x A;have au:AT B' (AT (S.set j []).flatten H) x=none:=ar;exact(D5 au).1
 have aa:Nd E' H (B'++(S.set j []).flatten):=Nd.glue al aq;rw [am];have ab:(B'++(S.set j []).flatten).Perm (S.set j B').flatten:=List.perm_append_comm.trans (Co U).2.symm;rw [CW aa ab];exact ai v E' B' hle ak (Nd.perm aa ab)
theorem JG.Mo{bks:List Nat}{m fuel:Nat}{listed:Array Bool}{f:FuncId}{args:Array Operand}{ats:Array TypeId}{vs:List Value}{seg:Seg}{R:Value→LH→Seg→Prop}(j:Nat)(ai:Ed S bks)(aj:Au J f vs E seg R)(ak:∀v E' B',R v E' B'→B'=seg)(al:Region.ready .any ops listed= [i])
  (am:ops[i]? =some ⟨d,.call ⟨.value (.func f),args,ats⟩,ty,p,af,g⟩) (an:A2 n d=true) (hw:AS L ops ⟨d,.call ⟨.value (.func f),args,ats⟩,ty,p,af,g⟩=some true) (hb:Cd P f=true) (ao:evs L args.toList=some vs) (U:Az E H S) (ap:S[j]? =some seg)
  (aq:∀v E',Le E E'→R v E' seg→Az E' H S→Av J Q b n ds ops k cs m (AD bks) fuel (AW listed i) (AH L d v) (Ap E' H S)):
  Av J Q b n ds ops k cs m (AD bks) (fuel+1) listed L (Ap E H S):=by
 have K:S.flatten.Perm (seg++(S.set j []).flatten):=(Co (seg':=seg) ap).1.trans List.perm_append_comm;have aa:Nd E H (seg++(S.set j []).flatten):=Nd.perm U K;have ar:Ap E H S=mk E (AT (S.set j []).flatten H) seg:=by
  rw [show Ap E H S=mk E H S.flatten from rfl,CW U K];unfold mk;rw [Dl]
 have ab:=Ch.EZ (aj (AT (S.set j []).flatten H) (Nd.front aa)) (by rintro v s' ⟨E',B',_,_,_,rfl⟩;rfl);rw [← ar] at ab;refine Av.call rfl al am an hw hb ao ab ?_;rintro v aD ⟨⟨E',B',hle,ac,au,rfl⟩,w,av⟩;obtain rfl:=ak _ _ _ ac;have aw:mk E' (AT (S.set j []).flatten H) B'=mk E' H (B'++(S.set j []).flatten):=by unfold mk;rw [Dl]
 have ay:Nd E H (S.set j []).flatten:=by
  have:=aa;rw [Nd.iff] at this ⊢;rw [List.map_append,List.nodup_append] at this;exact⟨this.1.2.1,fun q az=>this.2 q (List.mem_append_right _ az)⟩
 have aA:Nd E' H (S.set j []).flatten:=ay.grow fun x O=>by
  have aB:=av.d x O;have W:AT B' (AT (S.set j []).flatten H) x=none:=aB;exact(D5 W).1
 have ae:Nd E' H (B'++(S.set j []).flatten):=Nd.glue au aA;have ag:Az E' H S:=Nd.perm ae K.symm;rw [aw,CW ae K.symm];refine⟨rfl,fun x o O=>?_,aq v E' hle ac ag⟩;by_cases Z:AD bks x=true
 ·obtain⟨aE,o',ah⟩:=ai.mem x (by simpa [AD] using Z);have W:(Ap E H S).get x=some o':=CI (i:=0) U ah rfl;have aC:(Ap E' H S).get x=some o':=CI (i:=0) ag ah rfl;have A:(if AD bks x then(Ap E H S).get x else E x)=some o:=O
  show(if AD bks x then(Ap E' H S).get x else E' x)=some o
  rw [if_pos Z] at A ⊢;rw [aC,← W];exact A
 ·have A:(if AD bks x then(Ap E H S).get x else E x)=some o:=O
  show(if AD bks x then(Ap E' H S).get x else E' x)=some o
  rw [if_neg Z] at A ⊢;exact hle _ _ A
theorem Take.Ia{bks:List Nat}{m fuel:Nat}{listed:Array Bool}{f:FuncId}{args:Array Operand}{ats:Array TypeId}{vs:List Value}{R:Value→LH→Seg→Prop}(ag:Ed S bks)(Z:Az E H S)(ah:Au J f vs E [] R)
  (ai:ops[i]? =some ⟨d,.call ⟨.value (.func f),args,ats⟩,ty,p,af,g⟩) (hw:AS L ops ⟨d,.call ⟨.value (.func f),args,ats⟩,ty,p,af,g⟩=some true) (aj:A2 n d=true) (hb:Cd P f=true) (ak:evs L args.toList=some vs)
  (al:∀v E' seg',Le E E'→R v E' seg'→Az E' H (S++ [seg'])→Av J Q b n ds ops k cs m (AD bks) fuel (AW listed i) (AH L d v) (Ap E' H (S++ [seg']))):
  Take J Q b n ds ops k cs m (AD bks) fuel listed L (Ap E H S) i:=by
 have am:=Ch.EZ (ah (AT S.flatten H) trivial) (by rintro v s' ⟨E',B',_,_,_,rfl⟩;rfl);refine⟨_,ai,by simp [B7],aj,hw,fun ρ aa=>?_⟩;have an:args.map ρ=vs.toArray:=by
  rw [← Dz aa ak];apply Array.ext';simp
 have ao:ρ (.func f)= .func (.func f) #[] #[]:=aa _ _ rfl;simp only [execOp,resolve,bind,Sem.bind,Deferred.ofValue,ao,pure,invoke];have e: #[]++args.map ρ++ #[]=vs.toArray:=by rw [an];simp
 rw [e];refine FG hb ?_;rw [GM];refine⟨_,am,?_⟩;rintro v aA ⟨⟨E',B',hle,ap,aq,rfl⟩,w,ar⟩;have au:mk E' (AT S.flatten H) B'=mk E' H (B'++S.flatten):=by unfold mk;rw [Dl]
 have av:Nd E' H S.flatten:=Nd.grow Z fun x K=>by
  have aw:=ar.d x K;have O:AT B' (AT S.flatten H) x=none:=aw;exact(D5 O).1
 have ab:Nd E' H (B'++S.flatten):=Nd.glue aq av;have ac:(B'++S.flatten).Perm (S++ [B']).flatten:=by rw [D7];exact List.perm_append_comm
 have ae:Az E' H (S++ [B']):=Nd.perm ab ac;rw [au,CW ab ac];refine⟨rfl,fun x o K=>?_,al v E' B' hle ap ae⟩;by_cases U:AD bks x=true
 ·obtain⟨j,o',W⟩:=ag.mem x (by simpa [AD] using U);have O:(Ap E H S).get x=some o':=CI (i:=0) Z W rfl;have ay:j<S.length:=(List.getElem?_eq_some_iff.1 W).1;have az:(Ap E' H (S++ [B'])).get x=some o':=CI (i:=0) ae (by rw [List.getElem?_append_left ay];exact W) rfl;have A:(if AD bks x then(Ap E H S).get x else E x)=some o:=K
  show(if AD bks x then(Ap E' H (S++ [B'])).get x else E' x)=some o
  rw [if_pos U] at A ⊢;rw [az,← O];exact A
 ·have A:(if AD bks x then(Ap E H S).get x else E x)=some o:=K
  show(if AD bks x then(Ap E' H (S++ [B'])).get x else E' x)=some o
  rw [if_neg U] at A ⊢;exact hle _ _ A
theorem Take.MJ{m fuel:Nat}{listed:Array Bool}{f:FuncId}{args:Array Operand}{ats:Array TypeId}{vs:List Value}{R:Value→LH→Seg→Prop}(K:Az E H S)(O:Au J f vs E [] R)
  (U:ops[i]? =some ⟨d,.call ⟨.value (.func f),args,ats⟩,ty,p,af,g⟩) (hw:AS L ops ⟨d,.call ⟨.value (.func f),args,ats⟩,ty,p,af,g⟩=some true) (W:A2 n d=true) (hb:Cd P f=true) (Z:evs L args.toList=some vs)
  (A:∀v E' seg',Le E E'→R v E' seg'→Az E' H (S++ [seg'])→Av J Q b n ds ops k cs m CG fuel (AW listed i) (AH L d v) (Ap E' H (S++ [seg']))):
  Take J Q b n ds ops k cs m CG fuel listed L (Ap E H S) i:=by
 have e:AD []=CG:=by funext x;rfl
 rw [← e] at A ⊢;exact Take.Ia (bks:= []) trivial K O U hw W hb Z A
end
end Pal
