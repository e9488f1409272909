/- ToothKnown: the examples of the chapter have the results given there Part 1 of 8. -/
import Derived.Conc.Own5
import Derived.Conc.Listed
import Derived.Conc.DeferLaws
import Derived.Orders
import Derived.Conc.Beside
set_option linter.all false
set_option maxRecDepth 100000
namespace Pal
open Go Go.Conc
abbrev LH:=Nat→Option Obj
structure St where
 E:LH
 H:LH
 q:Bool
abbrev Ld_:=List Deferred
abbrev Ao_:=Array Oper
abbrev Li_:=List Item
abbrev Lf_:=List Frame
abbrev On_:=Option (Nat×Bool)
abbrev Ae_:=Array Edge
abbrev Gs_:=Goroutine→St→Prop
abbrev Lv_:=List Value
abbrev Aw:=Array Value
def St.get(s:St)(b:Nat):Option Obj:=match s.E b with | some o=>some o | none=>s.H b
structure Fits (s:St) (w:World):Prop where
 e:∀b o,s.E b=some o→w.heap[b]? =some o
 h:∀b o,s.H b=some o→w.heap[b]? =some o
 d:∀b,s.E b≠none→s.H b=none
theorem Fits.get{s:St}{w:World}(f:Fits s w){b:Nat}{o:Obj}(h:s.get b=some o):w.heap[b]? =some o:=by
 unfold St.get at h;split at h
 ·rename_i o' K;cases h;exact f.e _ _ K
 ·exact f.h _ _ h
theorem Fits.Qd{s:St}{w:World}(f:Fits s w){b:Nat}{o:Obj}(h:s.H b=some o):b<w.heap.size:=by
 have:=f.h _ _ h;rcases Nat.lt_or_ge b w.heap.size with K | K
 ·exact K
 ·simp [Array.getElem?_eq_none K] at this
theorem Fits.lt{s:St}{w:World}(f:Fits s w){b:Nat}{o:Obj}(h:s.get b=some o):b<w.heap.size:=by
 have:=f.get h;rcases Nat.lt_or_ge b w.heap.size with K | K
 ·exact K
 ·simp [Array.getElem?_eq_none K] at this
def cellAt(o:Obj)(a:Addr):Option Value:=match o with | .cells c _ _=>if a.spot.isSome then none else c[a.off]? | _=>none
def frozenAt(o:Obj)(a:Addr):Bool:=match o with | .cells _ _ (lo,hi)=>lo≤a.off&&a.off<hi | _=>false
def shapeOf(o:Obj):Option (TypeId×Nat):=match o with | .cells c e _=>some (e,c.size) | _=>none
def AL:Value→Bool | .agg _ | .tuple _=>false | _=>true
def HP(o:Obj)(a:Addr)(v:Value):Obj:=match o with | .cells c e f=> .cells (if a.spot.isSome then c else c.setIfInBounds a.off v) e f | o=>o
def Hi(o:Obj):Bool:=match o with | .cells ..=>false | .chan ..=>false | .pending ..=>false | .view ..=>false | .number ..=>false | _=>true
def St.cell? (s:St)(a:Addr):Option Value:=(s.get a.block).bind (cellAt · a)
def St.upd(s:St)(b:Nat)(o:Obj):St:={s with H:=fun x=>if x=b then some o else s.H x}
theorem Nb{w:World}{a:Addr}{o:Obj}(h:w.heap[a.block]? =some o):w.cell? a=cellAt o a:=by
 unfold World.cell? cellAt;rw [h];cases o <;> rfl
theorem MX{w:World}{a:Addr}{o:Obj}(h:w.heap[a.block]? =some o):w.frozen? a=frozenAt o a:=by
 unfold World.frozen? frozenAt;rw [h];cases o <;> rfl
theorem QH{w:World}{b:Nat}{o:Obj}(h:w.heap[b]? =some o):w.shape? b=shapeOf o:=by
 unfold World.shape? shapeOf;rw [h];cases o <;> rfl
def lp(P:Program){α:Type}:Sem α→St→(α→St→Prop)→(Halt→St→Prop)→Prop
 | .pure a,s,Q,_=>Q a s
 | .load m a k,s,Q,X=>m= .plain∧∃v,s.cell? a=some v∧lp P (k v) s Q X
 | .store m a v k,s,Q,X=>m= .plain∧AL v=true∧∃o,s.H a.block=some o∧(cellAt o a).isSome=true∧frozenAt o a=false∧lp P k (s.upd a.block (HP o a v)) Q X
 | .new o k,s,Q,X=>s.q=false∧∀r,s.E r=none→s.H r=none→lp P (k r) (s.upd r o) Q X
 | .shape r k,s,Q,X=>∃o,s.get r=some o∧lp P (k (shapeOf o)) s Q X
 | .freeze _ _ _,_,_,_=>False
 | .frozen a k,s,Q,X=>∃o,s.get a.block=some o∧lp P (k (frozenAt o a)) s Q X
 | .getObj r k,s,Q,X=>∃o,s.get r=some o∧Hi o=true∧lp P (k o) s Q X
 | .setObj r o k,s,Q,X=>(∃o₀,s.H r=some o₀∧Hi o₀=true)∧Hi o=true∧lp P k (s.upd r o) Q X
 | .choose q k,s,Q,X=>if q.forced then lp P (k 0) s Q X else s.q=false∧∀t,lp P (k (q.cut t)) s Q X
 | .sys _ _,_,_,_=>False
 | .program k,s,Q,X=>lp P (k P) s Q X
 | .mark m k,s,Q,X=>((s.q=false∧m= .noRoom)∨∃f,m= .extern f)∧lp P k s Q X
 | .halt h,s,_,X=>X h s
theorem CO{P:Program}{α:Type}(x:Sem α):∀{s:St} {Q V:α→St→Prop} {X Y:Halt→St→Prop},lp P x s Q X→(∀a s,Q a s→V a s)→(∀h s,X h s→Y h s)→lp P x s V Y:=by
 induction x with
 | pure a=>intro s Q V X Y h K O;exact K _ _ h
 | load m a k U=>intro s Q V X Y h K O;obtain⟨Z,v,aa,ab⟩:=h;exact⟨Z,v,aa,U _ ab K O⟩
 | store m a v k U=>intro s Q V X Y h K O;obtain⟨Z,aa,o,ab,ae,ag,ah⟩:=h;exact⟨Z,aa,o,ab,ae,ag,U ah K O⟩
 | new o k U=>intro s Q V X Y h K O;exact⟨h.1,fun r Z aa=>U _ (h.2 r Z aa) K O⟩
 | shape r k U=>intro s Q V X Y h K O;obtain⟨o,Z,aa⟩:=h;exact⟨o,Z,U _ aa K O⟩
 | freeze a n k U=>intro s Q V X Y h K O;exact h
 | frozen a k U=>intro s Q V X Y h K O;obtain⟨o,Z,aa⟩:=h;exact⟨o,Z,U _ aa K O⟩
 | getObj r k U=>intro s Q V X Y h K O;obtain⟨o,Z,aa,ab⟩:=h;exact⟨o,Z,aa,U _ ab K O⟩
 | setObj r o k U=>intro s Q V X Y h K O;obtain⟨Z,aa,ab⟩:=h;exact⟨Z,aa,U ab K O⟩
 | choose q k U=>
  intro s Q V X Y h K O;simp only [lp] at h ⊢;split
  ·rename_i ac;rw [if_pos ac] at h;exact U _ h K O
  ·rename_i ac;rw [if_neg ac] at h;exact⟨h.1,fun t=>U _ (h.2 t) K O⟩
 | sys c k U=>intro s Q V X Y h K O;exact h
 | program k U=>intro s Q V X Y h K O;exact U _ h K O
 | mark m k U=>intro s Q V X Y h K O;exact⟨h.1,U h.2 K O⟩
 | halt h=>intro s Q V X Y h K O;exact O _ _ h
theorem Ay{P:Program}{α β:Type}(x:Sem α)(f:α→Sem β):∀{s:St} {Q:β→St→Prop} {X:Halt→St→Prop},lp P x s (fun a s'=>lp P (f a) s' Q X) X→lp P (x>>=f) s Q X:=by
 show ∀{s:St} {Q:β→St→Prop} {X:Halt→St→Prop},lp P x s (fun a s'=>lp P (f a) s' Q X) X→lp P (Sem.bind x f) s Q X
 induction x with
 | pure a=>intro s Q X h;exact h
 | load m a k K=>intro s Q X h;obtain⟨O,v,U,V⟩:=h;exact⟨O,v,U,K _ V⟩
 | store m a v k K=>intro s Q X h;obtain⟨O,U,o,V,Z,aa,ab⟩:=h;exact⟨O,U,o,V,Z,aa,K ab⟩
 | new o k K=>intro s Q X h;exact⟨h.1,fun r O U=>K _ (h.2 r O U)⟩
 | shape r k K=>intro s Q X h;obtain⟨o,O,U⟩:=h;exact⟨o,O,K _ U⟩
 | freeze a n k K=>intro s Q X h;exact h
 | frozen a k K=>intro s Q X h;obtain⟨o,O,U⟩:=h;exact⟨o,O,K _ U⟩
 | getObj r k K=>intro s Q X h;obtain⟨o,O,U,V⟩:=h;exact⟨o,O,U,K _ V⟩
 | setObj r o k K=>intro s Q X h;obtain⟨O,U,V⟩:=h;exact⟨O,U,K V⟩
 | choose q k K=>
  intro s Q X h;simp only [lp,Sem.bind] at h ⊢;split
  ·rename_i Y;rw [if_pos Y] at h;exact K _ h
  ·rename_i Y;rw [if_neg Y] at h;exact⟨h.1,fun t=>K _ (h.2 t)⟩
 | sys c k K=>intro s Q X h;exact h
 | program k K=>intro s Q X h;exact K _ h
 | mark m k K=>intro s Q X h;exact⟨h.1,K h.2⟩
 | halt h=>intro s Q X h;exact h
structure Fr (s:St) (w:World) (s':St) (w':World):Prop where
 size:w.heap.size≤w'.heap.size
 keep:∀b,b<w.heap.size→s.H b=none→w'.heap[b]? =w.heap[b]?
 own:∀b,s'.H b≠none→s.H b≠none∨w.heap.size≤b
 ext:∀b o,s.E b=some o→s'.E b=some o
 Ds:∀b,s'.E b≠none→s.E b≠none∨s.H b≠none∨w.heap.size≤b
 tape:w'.tape=w.tape
 os:w'.os=w.os
 output:w'.output=w.output
theorem Fr.refl(s:St)(w:World):Fr s w s w:=
 ⟨Nat.le_refl _,fun _ _ _=>rfl,fun _ h=> .inl h,fun _ _ h=>h,fun _ h=> .inl h,rfl,rfl,rfl⟩
theorem Fr.trans{s K O:St}{w U V:World}(h:Fr s w K U)(k:Fr K U O V):Fr s w O V where
 size:=Nat.le_trans h.size k.size
 keep b hb Y:=by
  rw [k.keep b (Nat.lt_of_lt_of_le hb h.size) ?_,h.keep b hb Y];by_cases Z:K.H b=none
  ·exact Z
  ·rcases h.own b Z with x | x
   ·exact absurd Y x
   ·omega
 own b hb:=by
  rcases k.own b hb with x | x
  ·exact h.own b x
  ·exact .inr (Nat.le_trans h.size x)
 ext b o aa:=k.ext b o (h.ext b o aa)
 Ds b hb:=by
  rcases k.Ds b hb with x | x | x
  ·exact h.Ds b x
  ·rcases h.own b x with y | y
   ·exact .inr (.inl y)
   ·exact .inr (.inr y)
  ·exact .inr (.inr (Nat.le_trans h.size x))
 tape:=k.tape.trans h.tape
 os:=k.os.trans h.os
 output:=k.output.trans h.output
def Fa(s:St)(w w':World)(b:Nat)(write:Bool):Prop:=
 b<w'.heap.size∧(s.H b≠none∨w.heap.size≤b∨(s.E b≠none∧write=false))
def Ev(s:St)(w w':World)(e:Event):Prop:=
 match e.loc with
 | .cell a=>e.sync=false∧Fa s w w' a.block e.write
 | .obj r=>e.sync=false∧Fa s w w' r e.write
 | .mark (.extern _)=>True
 | .mark .noRoom=>True
 | _=>False
theorem Fa.Ad{s K:St}{w O w' U:World}{b:Nat}{wr:Bool}(h:Fr s w K O)(hs:w'.heap.size≤U.heap.size)(t:Fa K O w' b wr):Fa s w U b wr:=by
 refine⟨Nat.lt_of_lt_of_le t.1 hs,?_⟩;rcases t.2 with x | x | ⟨x,y⟩
 ·rcases h.own b x with z | z
  ·exact .inl z
  ·exact .inr (.inl z)
 ·exact .inr (.inl (Nat.le_trans h.size x))
 ·rcases h.Ds b x with z | z | z
  ·exact .inr (.inr ⟨z,y⟩)
  ·exact .inl z
  ·exact .inr (.inl z)
theorem Ev.Ad{s K:St}{w O w' U:World}{e:Event}(h:Fr s w K O)(hs:w'.heap.size≤U.heap.size)(t:Ev K O w' e):Ev s w U e:=by
 unfold Ev at t ⊢;split <;> rename_i he <;> simp only [he] at t
 ·exact⟨t.1,t.2.Ad h hs⟩
 ·exact⟨t.1,t.2.Ad h hs⟩
 ·trivial
 ·trivial
def HS{α:Type}:Result α→World | .ok _ w=>w | .halt _ w=>w
def UG{α:Type}(Q:α→St→Prop)(X:Halt→St→Prop)(s:St):Result α→Prop | .ok a _=>Q a s | .halt h _=>X h s
theorem Oj{s:St}{b:Nat}{o:Obj}(h:s.get b=some o)(K:s.H b=none):s.E b≠none:=by
 intro e;unfold St.get at h;rw [e] at h;simp only at h;rw [K] at h;cases h
theorem LW{s:St}{w w':World}{b:Nat}{o:Obj}(f:Fits s w)(U:s.E b=none)(hb:w'.heap[b]? =some o)(V:∀c,c≠b→∀x,w.heap[c]? =some x→w'.heap[c]? =some x):Fits (s.upd b o) w' where
 e c x K:=by
  have O:c≠b:=fun e=>by subst e;simp [St.upd] at K;rw [U] at K;cases K
  exact V c O x (f.e c x K)
 h c x K:=by
  simp only [St.upd] at K;split at K
  ·rename_i e;subst e;cases K;exact hb
  ·rename_i O;exact V c O x (f.h c x K)
 d c K:=by
  have O:c≠b:=fun e=>by subst e;exact K U
  simp only [St.upd,if_neg O];exact f.d c K
theorem Kl{P:Program}{α:Type}(x:Sem α):∀{s:St} {w:World} {Q:α→St→Prop} {X:Halt→St→Prop},lp P x s Q X→Fits s w→
  ∃s',Fits s' (HS (x.run P w))∧Fr s w s' (HS (x.run P w))∧(∀e∈x.events P w #[],Ev s w (HS (x.run P w)) e)∧UG Q X s' (x.run P w):=by
 induction x with
 | pure a=>intro s w Q X h f;exact⟨s,f,.refl _ _,by simp [Sem.events_pure'],h⟩
 | load m a k O=>
  intro s w Q X h f;obtain⟨rfl,v,ap,h⟩:=h;obtain⟨o,K,aC⟩:=Option.bind_eq_some_iff.1 ap;have hw:=f.get K;have aq:w.cell? a=some v:=by rw [Nb hw,aC]
  have U:(Sem.load Mode.plain a k).run P w=(k v).run P w:=by simp [Sem.run,aq]
  have V:(Sem.load Mode.plain a k).events P w #[]= #[⟨.cell a,false,false⟩]++(k v).events P w #[]:=by
   rw [← Sem.events_acc];simp only [Sem.events,Sem.runT,aq];rfl
  rw [U,V];obtain⟨s',Z,Y,aa,ab⟩:=O v h f;refine⟨s',Z,Y,fun e he=>?_,ab⟩;rcases Array.mem_append.1 he with he | he
  ·simp at he;subst he;refine⟨rfl,Nat.lt_of_lt_of_le (f.lt K) Y.size,?_⟩;by_cases ak:s.H a.block=none
   ·refine .inr (.inr ⟨?_,rfl⟩);exact Oj K ak
   ·exact .inl ak
  ·exact aa e he
 | store m a v k O=>
  intro s w Q X h f;obtain⟨rfl,ap,o,K,aq,aD,h⟩:=h;have hw:=f.h _ _ K;obtain⟨u,hu⟩:=Option.isSome_iff_exists.1 aq;have ay:w.cell? a=some u:=by rw [Nb hw,hu]
  have az:w.frozen? a=false:=by rw [MX hw,aD]
  have ar:=f.Qd K;obtain⟨av,aw,f0,rfl⟩:∃c e f,o= .cells c e f:=by cases o <;> simp [cellAt] at hu;exact⟨_,_,_,rfl⟩
  have aE:(w.setCell a v).heap[a.block]? =some (HP (.cells av aw f0) a v):=by
   simp [World.setCell,HP,Array.getElem?_modify,hw]
  have al:∀c,c≠a.block→(w.setCell a v).heap[c]? =w.heap[c]? :=by
   intro c ag;simp [World.setCell,Array.getElem?_modify,Ne.symm ag]
  have ae:s.E a.block=none:=by
   cases ae:s.E a.block with
   | none=>rfl
   | some x=>have:=f.d a.block (by rw [ae];simp);rw [K] at this;cases this
  have am:Fits (s.upd a.block (HP (.cells av aw f0) a v)) (w.setCell a v):=LW f ae aE (fun c ag x ah=>by rw [al c ag];exact ah);have U:(Sem.store Mode.plain a v k).run P w=k.run P (w.setCell a v):=by
   cases v <;> first | (simp [AL] at ap;done) | simp [Sem.run,ay,az]
  have V:(Sem.store Mode.plain a v k).events P w #[]= #[⟨.cell a,true,false⟩]++k.events P (w.setCell a v) #[]:=by
   rw [← Sem.events_acc];cases v <;> first | (simp [AL] at ap;done) | (simp only [Sem.events,Sem.runT,ay,az];rfl)
  have ac:Fr s w (s.upd a.block (HP (.cells av aw f0) a v)) (w.setCell a v):=by
   refine⟨by simp [World.setCell],fun b hb ai=>al b (fun e=>by subst e;rw [K] at ai;cases ai),fun b hb=>?_,fun _ _ h=>h,fun _ h=> .inl h,rfl,rfl,rfl⟩;simp only [St.upd] at hb;split at hb
   ·rename_i e;subst e;exact .inl (by rw [K];simp)
   ·exact .inl hb
  rw [U,V];obtain⟨s',Z,Y,aa,ab⟩:=O h am;refine⟨s',Z,ac.trans Y,fun e he=>?_,ab⟩;rcases Array.mem_append.1 he with he | he
  ·simp at he;subst he;exact⟨rfl,Nat.lt_of_lt_of_le ar (ac.trans Y).size,.inl (by rw [K];simp)⟩
  ·exact(aa e he).Ad ac (Nat.le_refl _)
 | new o k O=>
  intro s w Q X h f;have aA:s.E w.heap.size=none:=by
   cases ae:s.E w.heap.size with
   | none=>rfl
   | some x=>have:=f.e _ _ ae;simp at this
  have aF:s.H w.heap.size=none:=by
   cases ae:s.H w.heap.size with
   | none=>rfl
   | some x=>have:=f.h _ _ ae;simp at this
  have U:(Sem.new o k).run P w=(k w.heap.size).run P {w with heap:=w.heap.push o}:=by simp [Sem.run]
  have V:(Sem.new o k).events P w #[]=(k w.heap.size).events P {w with heap:=w.heap.push o} #[]:=by simp only [Sem.events,Sem.runT]
  rw [U,V];have am:Fits (s.upd w.heap.size o) {w with heap:=w.heap.push o}:=LW f aA (by simp) (fun c ag x ah=>by
   have:c<w.heap.size:=by
    rcases Nat.lt_or_ge c w.heap.size with an | an
    ·exact an
    ·simp [Array.getElem?_eq_none an] at ah
   simp [Array.getElem?_push,Nat.ne_of_lt this,ah])
  have ac:Fr s w (s.upd w.heap.size o) {w with heap:=w.heap.push o}:=by
   refine⟨by simp,fun b hb ai=>by simp [Array.getElem?_push,Nat.ne_of_lt hb],fun b hb=>?_,fun _ _ h=>h,fun _ h=> .inl h,rfl,rfl,rfl⟩;simp only [St.upd] at hb;split at hb
   ·rename_i e;subst e;exact .inr (Nat.le_refl _)
   ·exact .inl hb
  obtain⟨s',Z,Y,aa,ab⟩:=O _ (h.2 _ aA aF) am;exact⟨s',Z,ac.trans Y,fun e he=>(aa e he).Ad ac (Nat.le_refl _),ab⟩
 | shape r k O=>
  intro s w Q X h f;obtain⟨o,K,h⟩:=h;have ao:=QH (f.get K);have U:(Sem.shape r k).run P w=(k (shapeOf o)).run P w:=by simp [Sem.run,ao]
  have V:(Sem.shape r k).events P w #[]=(k (shapeOf o)).events P w #[]:=by simp only [Sem.events,Sem.runT,ao]
  rw [U,V];exact O _ h f
 | freeze a n k O=>intro s w Q X h f;exact h.elim
 | frozen a k O=>
  intro s w Q X h f;obtain⟨o,K,h⟩:=h;have ao:=MX (a:=a) (f.get K);have U:(Sem.frozen a k).run P w=(k (frozenAt o a)).run P w:=by simp [Sem.run,ao]
  have V:(Sem.frozen a k).events P w #[]=(k (frozenAt o a)).events P w #[]:=by simp only [Sem.events,Sem.runT,ao]
  rw [U,V];exact O _ h f
 | getObj r k O=>
  intro s w Q X h f;obtain⟨o,K,au,h⟩:=h;have hw:=f.get K;have U:(Sem.getObj r k).run P w=(k o).run P w:=by cases o <;> simp [Hi] at au <;> simp [Sem.run,hw]
  have V:(Sem.getObj r k).events P w #[]= #[⟨.obj r,false,false⟩]++(k o).events P w #[]:=by
   rw [← Sem.events_acc];cases o <;> simp [Hi] at au <;> (simp only [Sem.events,Sem.runT,hw,Obj.isChan];rfl)
  rw [U,V];obtain⟨s',Z,Y,aa,ab⟩:=O o h f;refine⟨s',Z,Y,fun e he=>?_,ab⟩;rcases Array.mem_append.1 he with he | he
  ·simp at he;subst he;refine⟨rfl,Nat.lt_of_lt_of_le (f.lt K) Y.size,?_⟩;by_cases ak:s.H r=none
   ·refine .inr (.inr ⟨?_,rfl⟩);exact Oj K ak
   ·exact .inl ak
  ·exact aa e he
 | setObj r o k O=>
  intro s w Q X h f;obtain⟨⟨o₀,K,aB⟩,au,h⟩:=h;have hw:=f.h _ _ K;have ar:=f.Qd K;have ae:s.E r=none:=by
   cases ae:s.E r with
   | none=>rfl
   | some x=>have:=f.d r (by rw [ae];simp);rw [K] at this;cases this
  have U:(Sem.setObj r o k).run P w=k.run P {w with heap:=w.heap.setIfInBounds r o}:=by
   cases o₀ <;> simp [Hi] at aB <;> simp [Sem.run,hw]
  have V:(Sem.setObj r o k).events P w #[]= #[⟨.obj r,true,false⟩]++k.events P {w with heap:=w.heap.setIfInBounds r o} #[]:=by
   rw [← Sem.events_acc];cases o₀ <;> simp [Hi] at aB <;> cases o <;> simp [Hi] at au <;> (simp only [Sem.events,Sem.runT,hw,Obj.isChan];rfl)
  have al:∀c,c≠r→(w.heap.setIfInBounds r o)[c]? =w.heap[c]? :=fun c ag=>by simp [Ne.symm ag]
  have am:Fits (s.upd r o) {w with heap:=w.heap.setIfInBounds r o}:=LW f ae (by simp [ar]) (fun c ag x ah=>by show(w.heap.setIfInBounds r o)[c]? =_;rw [al c ag];exact ah);have ac:Fr s w (s.upd r o) {w with heap:=w.heap.setIfInBounds r o}:=by
   refine⟨by simp,fun b hb ai=>al b (fun e=>by subst e;rw [K] at ai;cases ai),fun b hb=>?_,fun _ _ h=>h,fun _ h=> .inl h,rfl,rfl,rfl⟩;simp only [St.upd] at hb;split at hb
   ·rename_i e;subst e;exact .inl (by rw [K];simp)
   ·exact .inl hb
  rw [U,V];obtain⟨s',Z,Y,aa,ab⟩:=O h am;refine⟨s',Z,ac.trans Y,fun e he=>?_,ab⟩;rcases Array.mem_append.1 he with he | he
  ·simp at he;subst he;exact⟨rfl,Nat.lt_of_lt_of_le ar (ac.trans Y).size,.inl (by rw [K];simp)⟩
  ·exact(aa e he).Ad ac (Nat.le_refl _)
 | choose q k O=>
  intro s w Q X h f;simp only [lp] at h;by_cases aj:q.forced
  ·rw [if_pos aj] at h;have U:(Sem.choose q k).run P w=(k 0).run P w:=by simp [Sem.run,aj]
   have V:(Sem.choose q k).events P w #[]=(k 0).events P w #[]:=by simp only [Sem.events,Sem.runT];rw [if_pos aj]
   rw [U,V];exact O _ h f
  ·rw [if_neg aj] at h;have U:(Sem.choose q k).run P w=(k (q.cut (w.tape w.drawn q))).run P {w with drawn:=w.drawn+1}:=by simp [Sem.run,aj]
   have V:(Sem.choose q k).events P w #[]=(k (q.cut (w.tape w.drawn q))).events P {w with drawn:=w.drawn+1} #[]:=by simp only [Sem.events,Sem.runT];rw [if_neg aj]
   rw [U,V];have ac:Fr s w s {w with drawn:=w.drawn+1}:=⟨Nat.le_refl _,fun _ _ _=>rfl,fun _ h=> .inl h,fun _ _ h=>h,fun _ h=> .inl h,rfl,rfl,rfl⟩;obtain⟨s',Z,Y,aa,ab⟩:=O _ (h.2 (w.tape w.drawn q)) (⟨f.e,f.h,f.d⟩:Fits s {w with drawn:=w.drawn+1});exact⟨s',Z,ac.trans Y,fun e he=>(aa e he).Ad ac (Nat.le_refl _),ab⟩
 | sys c k O=>intro s w Q X h f;exact h.elim
 | program k O=>
  intro s w Q X h f;have U:(Sem.program k).run P w=(k P).run P w:=by simp [Sem.run]
  have V:(Sem.program k).events P w #[]=(k P).events P w #[]:=by simp only [Sem.events,Sem.runT]
  rw [U,V];exact O _ h f
 | mark m k O=>
  intro s w Q X h f;have U:(Sem.mark m k).run P w=k.run P w:=by simp [Sem.run]
  have V:(Sem.mark m k).events P w #[]= #[⟨.mark m,false,true⟩]++k.events P w #[]:=by
   rw [← Sem.events_acc];simp only [Sem.events,Sem.runT];rfl
  rw [U,V];obtain⟨hm,h⟩:=h;obtain⟨s',Z,Y,aa,ab⟩:=O h f;refine⟨s',Z,Y,fun e he=>?_,ab⟩;rcases Array.mem_append.1 he with he | he
  ·simp at he;subst he;rcases hm with⟨_,rfl⟩ | ⟨g,rfl⟩ <;> trivial
  ·exact aa e he
 | halt h=>intro s w Q X an f;exact⟨s,f,.refl _ _,by simp [Sem.events_halt],an⟩
theorem LI{P:Program}{fn:FuncId}{es:Array Event}(h:∀e∈es,∃f,e.loc= .mark (.extern f)):seen P fn es= #[]:=by
 rw [seen_def];have:∀(l:List Event) (q:Bool),(∀e∈l,∃f,e.loc= .mark (.extern f))→(l.foldl (seenStep fun f=>(P.funcs[f]?).any (·.norace)) (q,#[])).2= #[]:=by
  intro l
  induction l with
  | nil=>intro q _;rfl
  | cons e l K=>
   intro q h;obtain⟨f,O⟩:=h e (by simp);rw [List.foldl_cons];have:seenStep (fun f=>(P.funcs[f]?).any (·.norace)) (q,#[]) e=((P.funcs[f]?).any (·.norace),#[]):=by simp [seenStep,O]
   rw [this];exact K _ fun x U=>h x (by simp [U])
 exact this es.toList _ fun e he=>h e (Array.mem_toList_iff.1 he)
def St.quiet:St:=⟨fun _=>none,fun _=>none,true⟩
theorem L3{P:Program}{α:Type}(x:Sem α):∀{Q:α→St→Prop} {X:Halt→St→Prop},lp P x .quiet Q X→
  ∃es,(∀w,x.events P w #[]=es)∧(∀e∈es,∃f,e.loc= .mark (.extern f))∧((∃a,Q a .quiet∧(∀w,x.run P w= .ok a w))∨(∃a,X a .quiet∧(∀w,x.run P w= .halt a w))):=by
 induction x with
 | pure a=>intro Q X h;exact⟨#[],fun w=>by simp [Sem.events_pure'],by simp,.inl ⟨a,h,fun w=>rfl⟩⟩
 | load m a k K=>intro Q X h;obtain⟨_,v,Y,_⟩:=h;simp [St.cell?,St.get,St.quiet] at Y
 | store m a v k K=>intro Q X h;obtain⟨_,_,o,Z,_⟩:=h;cases Z
 | new o k K=>intro Q X h;cases h.1
 | shape r k K=>intro Q X h;obtain⟨o,O,_⟩:=h;simp [St.get,St.quiet] at O
 | freeze a n k K=>intro Q X h;exact h.elim
 | frozen a k K=>intro Q X h;obtain⟨o,O,_⟩:=h;simp [St.get,St.quiet] at O
 | getObj r k K=>intro Q X h;obtain⟨o,O,_⟩:=h;simp [St.get,St.quiet] at O
 | setObj r o k K=>intro Q X h;obtain⟨⟨o,O,_⟩,_⟩:=h;cases O
 | choose q k K=>
  intro Q X h;simp only [lp] at h;by_cases U:q.forced
  ·rw [if_pos U] at h;have V:∀w,(Sem.choose q k).run P w=(k 0).run P w:=fun w=>by simp [Sem.run,U]
   have e2:∀w,(Sem.choose q k).events P w #[]=(k 0).events P w #[]:=fun w=>by simp only [Sem.events,Sem.runT];rw [if_pos U]
   simpa only [V,e2] using K _ h
  ·rw [if_neg U] at h;cases h.1
 | sys c k K=>intro Q X h;exact h.elim
 | program k K=>
  intro Q X h;have V:∀w,(Sem.program k).run P w=(k P).run P w:=fun w=>by simp [Sem.run]
  have e2:∀w,(Sem.program k).events P w #[]=(k P).events P w #[]:=fun w=>by simp only [Sem.events,Sem.runT]
  simpa only [V,e2] using K _ h
 | mark m k K=>
  intro Q X h;obtain⟨hm,h⟩:=h;obtain⟨es,O,Y,Z⟩:=K h;have V:∀w,(Sem.mark m k).run P w=k.run P w:=fun w=>by simp [Sem.run]
  have e2:∀w,(Sem.mark m k).events P w #[]= #[⟨.mark m,false,true⟩]++k.events P w #[]:=fun w=>by rw [← Sem.events_acc];simp only [Sem.events,Sem.runT];rfl
  refine⟨#[⟨.mark m,false,true⟩]++es,fun w=>by rw [e2,O],fun e he=>?_,by simpa only [V] using Z⟩;rcases Array.mem_append.1 he with he | he
  ·simp at he;subst he;rcases hm with⟨U,_⟩ | hm
   ·cases U
   ·obtain⟨f,rfl⟩:=hm;exact⟨f,rfl⟩
  ·exact Y e he
 | halt h=>intro Q X aa;exact⟨#[],fun w=>by simp [Sem.events_halt],by simp,.inr ⟨h,aa,fun w=>rfl⟩⟩
end Pal
namespace Pal
open Go Go.Conc
def Px(P:Program)(main:Bool)(g:Goroutine)(s:St)(K:Gs_):Prop:=
 g.status= .running∧(∀w,Fits s w→
  ∃g' s' w' es,stepG P main g w= .go g' w' es∧K g' s'∧Fits s' w'∧Fr s w s' w'∧(∀e∈es,Ev s w w' e))∧
  (s= .quiet→∃g',(∀w,stepG P main g w= .go g' w #[])∧K g' .quiet)
structure Cf (s s₀:St):Prop where
 ext:∀b o,s.E b=some o→s₀.E b=some o
 own:∀b o,s₀.H b=some o→s.H b=some o
 Ds:∀b o,s₀.E b=some o→s.E b=some o∨(s.H b=some o∧s₀.H b=none)
 q:s₀.q=s.q
theorem Cf.refl(s:St):Cf s s:=⟨fun _ _ h=>h,fun _ _ h=>h,fun _ _ h=> .inl h,rfl⟩
theorem Cf.fits{s s₀:St}(g:Cf s s₀){w:World}(f:Fits s w):Fits s₀ w where
 e b o h:=by
  rcases g.Ds b o h with x | x
  ·exact f.e _ _ x
  ·exact f.h _ _ x.1
 h b o h:=f.h _ _ (g.own _ _ h)
 d b h:=by
  cases K:s₀.E b with
  | none=>exact absurd K h
  | some o=>
   rcases g.Ds b o K with x | x
   ·cases O:s₀.H b with
    | none=>rfl
    | some y=>have:=g.own _ _ O;rw [f.d b (by rw [x];simp)] at this;cases this
   ·exact x.2
theorem Gn{α:Type}{x:Option α}(h:x≠none):∃a,x=some a:=by cases x <;> simp at h;exact⟨_,rfl⟩
theorem Cf.fr{s s₀ s':St}{w w':World}(g:Cf s s₀)(f:Fr s₀ w s' w'):Fr s w s' w' where
 size:=f.size
 keep b hb O:=f.keep b hb (by
  cases h:s₀.H b with
  | none=>rfl
  | some o=>rw [g.own _ _ h] at O;cases O)
 own b hb:=(f.own b hb).imp (fun h=>by obtain⟨o,K⟩:=Gn h;rw [g.own _ _ K];simp) id
 ext b o h:=f.ext _ _ (g.ext _ _ h)
 Ds b hb:=by
  rcases f.Ds b hb with h | h | h
  ·obtain⟨o,K⟩:=Gn h;rcases g.Ds _ _ K with x | x
   ·exact .inl (by rw [x];simp)
   ·exact .inr (.inl (by rw [x.1];simp))
  ·obtain⟨o,K⟩:=Gn h;exact .inr (.inl (by rw [g.own _ _ K];simp))
  ·exact .inr (.inr h)
 tape:=f.tape
 os:=f.os
 output:=f.output
theorem Cf.Fa{s s₀:St}{w w':World}{b:Nat}{wr:Bool}(g:Cf s s₀)(t:Fa s₀ w w' b wr):Fa s w w' b wr:=by
 refine⟨t.1,?_⟩;rcases t.2 with h | h | ⟨h,hw⟩
 ·obtain⟨o,K⟩:=Gn h;exact .inl (by rw [g.own _ _ K];simp)
 ·exact .inr (.inl h)
 ·obtain⟨o,K⟩:=Gn h;rcases g.Ds _ _ K with x | x
  ·exact .inr (.inr ⟨by rw [x];simp,hw⟩)
  ·exact .inl (by rw [x.1];simp)
theorem Cf.ev{s s₀:St}{w w':World}{e:Event}(g:Cf s s₀)(t:Ev s₀ w w' e):Ev s w w' e:=by
 unfold Ev at t ⊢;split <;> rename_i he <;> simp only [he] at t
 ·exact⟨t.1,g.Fa t.2⟩
 ·exact⟨t.1,g.Fa t.2⟩
 ·trivial
 ·trivial
theorem Cf.quiet{s₀:St}(g:Cf .quiet s₀):s₀= .quiet:=by
 obtain⟨E,H,q⟩:=s₀;have K:E=fun _=>none:=by
  funext b;cases h:E b with
  | none=>rfl
  | some o=>rcases g.Ds b o h with x | ⟨x,_⟩ <;> cases x
 have O:H=fun _=>none:=by
  funext b;cases h:H b with
  | none=>rfl
  | some o=>cases g.own b o h
 have U:q=true:=g.q;subst K O U;rfl
inductive Rk:Type where
 | leaf:Rk
 | node (f:World→Rk):Rk
def Rk.sub(a b:Rk):Prop:=∃f w,b= .node f∧a=f w
theorem Rk.wf:WellFounded Rk.sub:=⟨fun r=>by
 induction r with
 | leaf=>exact⟨_,fun a ⟨f,w,h,_⟩=>by cases h⟩
 | node f K=>exact⟨_,fun a ⟨g,w,h,e⟩=>by cases h;subst e;exact K w⟩⟩
def Jr(P:Program)(main:Bool)(Q:Gs_):Rk→Gs_
 | .leaf,g,s=>Q g s
 | .node f,g,s=>Q g s∨(g.status= .running∧∀w,Fits s w→
  ∃g' s' w' es,stepG P main g w= .go g' w' es∧Jr P main Q (f w) g' s'∧Fits s' w'∧Fr s w s' w'∧(∀e∈es,Ev s w w' e)∧(s= .quiet→s'= .quiet∧w'=w∧es= #[]))
structure Judge (P:Program) where
 main:Bool
 ok:(Gs_)→Gs_
 stop:∀{Q g s},Q g s→ok Q g s
 step:∀{Q g s},Px P main g s (ok Q)→ok Q g s
 trans:∀{Q R g s},ok Q g s→(∀g' s',Q g' s'→ok R g' s')→ok R g s
 ghost:∀{Q g s s₀},Cf s s₀→ok Q g s₀→ok Q g s
def JQ(Q:Gs_)(g:Goroutine)(s:St):Prop:=∃s₀,Cf s s₀∧Q g s₀
theorem Cf.trans{a b c:St}(h:Cf a b)(k:Cf b c):Cf a c where
 ext x o y:=k.ext _ _ (h.ext _ _ y)
 own x o y:=h.own _ _ (k.own _ _ y)
 Ds x o y:=by
  rcases k.Ds x o y with z | z
  ·rcases h.Ds x o z with u | u
   ·exact .inl u
   ·refine .inr ⟨u.1,?_⟩;cases K:c.H x with
    | none=>rfl
    | some v=>have:=k.own _ _ K;rw [u.2] at this;cases this
  ·exact .inr ⟨h.own _ _ z.1,z.2⟩
 q:=k.q.trans h.q
def Bo(P:Program)(main:Bool):Judge P where
 main:=main
 ok Q g s:=∃r,Jr P main (JQ Q) r g s
 stop h:=⟨.leaf,_,.refl _,h⟩
 step {Q g s} h:=by
  obtain⟨U,h,hu⟩:=h;have aa:∀w,∃r:Rk,Fits s w→∃g' s' w' es,stepG P main g w= .go g' w' es∧Jr P main (JQ Q) r g' s'∧Fits s' w'∧Fr s w s' w'∧(∀e∈es,Ev s w w' e)∧(s= .quiet→s'= .quiet∧w'=w∧es= #[]):=by
   intro w;by_cases f:Fits s w
   ·by_cases e:s= .quiet
    ·obtain⟨g',K,r,O⟩:=hu e;exact⟨r,fun _=>⟨g',.quiet,w,#[],K w,O,e▸f,e▸ .refl _ _,by simp,fun _=>⟨rfl,rfl,rfl⟩⟩⟩
    ·obtain⟨g',s',w',es,K,⟨r,O⟩,Y,ab,ac⟩:=h w f;exact⟨r,fun _=>⟨g',s',w',es,K,O,Y,ab,ac,fun x=>absurd x e⟩⟩
   ·exact⟨.leaf,fun x=>absurd x f⟩
  exact⟨.node fun w=>Classical.choose (aa w),.inr ⟨U,fun w f=>Classical.choose_spec (aa w) f⟩⟩
 trans {Q R g s} h k:=by
  obtain⟨r,h⟩:=h;have ag:∀(r:Rk) {g:Goroutine} {s s₀:St},Cf s s₀→Jr P main (JQ R) r g s₀→Jr P main (JQ R) r g s:=by
   intro r g s s₀ hg V;cases r with
   | leaf=>obtain⟨Z,K,O⟩:=V;exact⟨Z,hg.trans K,O⟩
   | node f=>
    rcases V with⟨Z,K,O⟩ | ⟨U,V⟩
    ·exact .inl ⟨Z,hg.trans K,O⟩
    ·exact .inr ⟨U,fun w f=>let ⟨g',s',w',es,K,O,Y,ab,ac,ae⟩:=V w (hg.fits f);⟨g',s',w',es,K,O,Y,hg.fr ab,fun e he=>hg.ev (ac e he),fun e=>ae (by subst e;exact hg.quiet)⟩⟩
  induction r generalizing g s with
  | leaf=>
   obtain⟨s₀,K,O⟩:=h;obtain⟨r,U⟩:=k _ _ O;exact⟨r,ag r K U⟩
  | node f ai=>
   rcases h with⟨s₀,K,O⟩ | ⟨U,h⟩
   ·obtain⟨r,U⟩:=k _ _ O;exact⟨r,ag r K U⟩
   ·have aa:∀w,∃r:Rk,Fits s w→∃g' s' w' es,stepG P main g w= .go g' w' es∧Jr P main (JQ R) r g' s'∧Fits s' w'∧Fr s w s' w'∧(∀e∈es,Ev s w w' e)∧(s= .quiet→s'= .quiet∧w'=w∧es= #[]):=by
     intro w;by_cases ah:Fits s w
     ·obtain⟨g',s',w',es,K,O,Y⟩:=h w ah;obtain⟨r,U⟩:=ai w O;exact⟨r,fun _=>⟨g',s',w',es,K,U,Y⟩⟩
     ·exact⟨.leaf,fun x=>absurd x ah⟩
    exact⟨.node fun w=>Classical.choose (aa w),.inr ⟨U,fun w f=>Classical.choose_spec (aa w) f⟩⟩
 ghost {Q g s s₀} hg h:=by
  obtain⟨r,V⟩:=h;refine⟨r,?_⟩;cases r with
  | leaf=>obtain⟨Z,K,O⟩:=V;exact⟨Z,hg.trans K,O⟩
  | node f=>
   rcases V with⟨Z,K,O⟩ | ⟨U,V⟩
   ·exact .inl ⟨Z,hg.trans K,O⟩
   ·exact .inr ⟨U,fun w f=>let ⟨g',s',w',es,K,O,Y,ab,ac,ae⟩:=V w (hg.fits f);⟨g',s',w',es,K,O,Y,hg.fr ab,fun e he=>hg.ev (ac e he),fun e=>ae (by subst e;exact hg.quiet)⟩⟩
def Lv(P:Program)(Q:Gs_):Nat→Goroutine→Prop
 | 0,g=>Q g .quiet
 | n+1,g=>Q g .quiet∨(g.status= .running∧∃g',(∀w,stepG P false g w= .go g' w #[])∧Lv P Q n g')
def FI(P:Program):Judge P where
 main:=false
 ok Q g s:=s= .quiet→∃n,Lv P Q n g
 stop h e:=⟨0,by subst e;exact h⟩
 step {Q g s} h e:=by
  obtain⟨g',K,O⟩:=h.2.2 e;obtain⟨n,U⟩:=O rfl;exact⟨n+1,.inr ⟨h.1,g',K,U⟩⟩
 trans {Q R g s} h k e:=by
  obtain⟨n,U⟩:=h e;have:∀n g,Lv P Q n g→∃m,Lv P R m g:=by
   intro n
   induction n with
   | zero=>intro g h;exact k _ _ h rfl
   | succ n V=>
    intro g h;rcases h with h | ⟨Y,g',K,O⟩
    ·exact k _ _ h rfl
    ·obtain⟨m,hm⟩:=V g' O;exact⟨m+1,.inr ⟨Y,g',K,hm⟩⟩
  exact this n g U
 ghost {Q g s s₀} hg h e:=by subst e;exact h hg.quiet
end Pal
namespace Pal
open Go Go.Conc
def fr(b:Frame)(T:Aw)(ds:Ld_)(todo:Li_):Frame:={b with tmps:=T,todo:=todo,defers:=ds,mode:= .run}
def DI(b:Frame)(T:Aw)(ds:Ld_)(todo:Li_):Frame:={b with tmps:=T,todo:=todo,defers:=ds,mode:= .returning}
def BB(T:Aw):Operand→Value
 | .tmp t=>T.getD t undef
 | .const v=>v
 | .global g=> .pointer (some ⟨g,0,none⟩)
 | .func f=> .func (.func f) #[] #[]
abbrev Env:=List (Nat×Value)
def look:Env→Nat→Option Value
 | [],_=>none
 | (t,v)::L,u=>if t=u then some v else look L u
def ev(L:Env):Operand→Option Value
 | .tmp t=>look L t
 | .const v=>some v
 | .global g=>some (.pointer (some ⟨g,0,none⟩))
 | .func f=>some (.func (.func f) #[] #[])
structure Has (n:Nat) (L:Env) (T:Aw):Prop where
 size:T.size=n
 at_:∀t v,look L t=some v→T.getD t undef=v
theorem Has.ev{n:Nat}{L:Env}{T:Aw}(h:Has n L T){x:Operand}{v:Value}(e:ev L x=some v):BB T x=v:=by
 cases x with
 | tmp t=>exact h.at_ t v e
 | const u=>cases e;rfl
 | global g=>cases e;rfl
 | func f=>cases e;rfl
def Cr(T:Aw):Option Tmp→Value→Aw
 | some d,v=>T.setIfInBounds d v
 | none,_=>T
def Ax(L:Env):Option Tmp→Value→Env
 | some d,v=>(d,v)::L
 | none,_=>L
def Bs(n:Nat):Option Tmp→Bool
 | some d=>d<n
 | none=>true
theorem SJ(T:Aw)(d:Nat)(v:Value)(h:d<T.size)(t:Nat):(T.setIfInBounds d v).getD t undef=if d=t then v else T.getD t undef:=by
 by_cases e:d=t
 ·subst e;simp [Array.getD_eq_getD_getElem?,h]
 ·simp [Array.getD_eq_getD_getElem?,e]
theorem Has.put{n:Nat}{L:Env}{T:Aw}(h:Has n L T){d:Option Tmp}(K:Bs n d=true)(v:Value):Has n (Ax L d v) (Cr T d v):=by
 cases d with
 | none=>exact h
 | some d=>
  have O:d<T.size:=by rw [h.size];simpa [Bs] using K
  refine⟨by simp [Cr,h.size],fun t u hu=>?_⟩;simp only [Cr,SJ T d v O];simp only [Ax,look] at hu;split at hu
  ·rename_i e;rw [if_pos e];exact Option.some.inj hu
  ·rename_i e;rw [if_neg e];exact h.at_ t u hu
def Sub:Env→Env→Prop
 | [],_=>True
 | (t,v)::L',L=>look L t=some v∧Sub L' L
theorem Sub.look{L:Env}:∀{L':Env},Sub L' L→∀t v,look L' t=some v→Pal.look L t=some v
 | [],_,t,v,e=>by simp [Pal.look] at e
 | (u,w)::L',h,t,v,e=>by
  simp only [Pal.look] at e
  split at e
  ·rename_i K;subst K;cases e;exact h.1
  ·exact Sub.look h.2 t v e
theorem Has.sub{n:Nat}{L L':Env}{T:Aw}(h:Has n L T)(s:Sub L' L):Has n L' T:=⟨h.size,fun t v e=>h.at_ t v (s.look t v e)⟩
section
variable {P:Program}(J:Judge P)(Q:Gs_)
def JL(b:Frame)(n:Nat)(L:Env)(ds:Ld_)(todo:Li_)(cs:Lf_)(s:St):Prop:=
 ∀T,Has n L T→J.ok Q (G (fr b T ds todo) cs) s
end
section
variable {P:Program}{J:Judge P}{Q:Gs_}{b:Frame}{n:Nat}{L L':Env}{ds:Ld_}{k:Li_}{cs:Lf_}{s s':St}
theorem Judge.CS{g g':Goroutine}(K:g.status= .running)(h:∀w,stepG P J.main g w= .go g' w)(k:J.ok Q g' s):J.ok Q g s:=
 J.step ⟨K,fun w f=>⟨g',s,w,#[],h w,k,f,.refl _ _,by simp⟩,fun e=>⟨g',h,e▸k⟩⟩
theorem Ie(h:Sub L' L)(k':JL J Q b n L' ds k cs s):JL J Q b n L ds k cs s:=fun T K=>k' T (K.sub h)
theorem JL.ghost(h:Cf s s')(k':JL J Q b n L ds k cs s'):JL J Q b n L ds k cs s:=fun T K=>J.ghost h (k' T K)
theorem JL.skip(h:JL J Q b n L ds k cs s):JL J Q b n L ds (.code .skip::k) cs s:=fun T K=>Judge.CS rfl (fun w=>by simp [G,stepG,stepG.exec,fr]) (h T K)
theorem JL.label{l:Nat}(h:JL J Q b n L ds k cs s):JL J Q b n L ds (.code (.label l)::k) cs s:=fun T K=>Judge.CS rfl (fun w=>by simp [G,stepG,stepG.exec,fr]) (h T K)
theorem M8{i:Nat}(h:JL J Q b n L ds k cs s):JL J Q b n L ds (.inBlock i::k) cs s:=fun T K=>Judge.CS rfl (fun w=>by simp [G,stepG,stepG.exec,fr]) (h T K)
theorem QD{c:Code}(h:JL J Q b n L ds k cs s):JL J Q b n L ds (.inScope c::k) cs s:=fun T K=>Judge.CS rfl (fun w=>by simp [G,stepG,stepG.exec,fr]) (h T K)
theorem JL.seq{x y:Code}(h:JL J Q b n L ds (.code x:: .code y::k) cs s):JL J Q b n L ds (.code (.seq x y)::k) cs s:=fun T K=>Judge.CS rfl (fun w=>by simp [G,stepG,stepG.exec,fr]) (h T K)
theorem JL.block{i:Nat}{c:Code}(h:JL J Q b n L ds (.code c:: .inBlock i::k) cs s):JL J Q b n L ds (.code (.block i c)::k) cs s:=fun T K=>Judge.CS rfl (fun w=>by simp [G,stepG,stepG.exec,fr]) (h T K)
theorem JL.scope{c:Code}(h:JL J Q b n L ds (.code c:: .inScope c::k) cs s):JL J Q b n L ds (.code (.scope c)::k) cs s:=fun T K=>Judge.CS rfl (fun w=>by simp [G,stepG,stepG.exec,fr]) (h T K)
theorem HB{c:Code}(h:JL J Q b n L ds (.code c:: .inLoop c::k) cs s):JL J Q b n L ds (.code (.loop c)::k) cs s:=fun T K=>Judge.CS rfl (fun w=>by simp [G,stepG,stepG.exec,fr]) (h T K)
theorem JL.again{c:Code}(h:JL J Q b n L ds (.code c:: .inLoop c::k) cs s):JL J Q b n L ds (.inLoop c::k) cs s:=fun T K=>Judge.CS rfl (fun w=>by simp [G,stepG,stepG.exec,fr]) (h T K)
theorem JL.exit{i:Nat}{k':Li_}(K:exitTo i k=some k')(h:JL J Q b n L ds k' cs s):JL J Q b n L ds (.code (.exit i)::k) cs s:=fun T O=>Judge.CS rfl (fun w=>by simp [G,stepG,stepG.exec,fr,K]) (h T O)
theorem JL.goto{l:Nat}{k':Li_}(K:gotoIn l k=some k')(h:JL J Q b n L ds k' cs s):JL J Q b n L ds (.code (.goto l)::k) cs s:=fun T O=>Judge.CS rfl (fun w=>by simp [G,stepG,stepG.exec,fr,K]) (h T O)
theorem OX(T:Aw)(todo:Li_)(x:Operand):(fr b T ds todo).eval x=BB T x:=by cases x <;> rfl
theorem NS(T:Aw)(todo:Li_):(fr b T ds todo).eval=BB T:=funext (OX T todo)
theorem JL.cond{c:Operand}{x y:Code}{t:Bool}(U:ev L c=some (.bool t))(h:JL J Q b n L ds (.code (if t then x else y)::k) cs s):JL J Q b n L ds (.code (.cond c x y)::k) cs s:=fun T O=>
 Judge.CS rfl (fun w=>by
  have K:=OX (b:=b) (ds:=ds) T (.code (.cond c x y)::k) c
  rw [O.ev U] at K
  simp only [fr] at K
  simp [G,stepG,stepG.exec,fr,K]) (h T O)
theorem Rh{c:Operand}{x y:Code}(K:ev L c=some (.bool true))(h:JL J Q b n L ds (.code x::k) cs s):JL J Q b n L ds (.code (.cond c x y)::k) cs s:=JL.cond K h
theorem Rn{c:Operand}{x y:Code}(K:ev L c=some (.bool false))(h:JL J Q b n L ds (.code y::k) cs s):JL J Q b n L ds (.code (.cond c x y)::k) cs s:=JL.cond K h
theorem Ob{c:Operand}{x y:Code}{t:Bool}(K:ev L c=some (.bool t))(O:t=true→JL J Q b n L ds (.code x::k) cs s)(U:t=false→JL J Q b n L ds (.code y::k) cs s):JL J Q b n L ds (.code (.cond c x y)::k) cs s:=by
 cases t
 ·exact JL.cond K (U rfl)
 ·exact JL.cond K (O rfl)
theorem Mp{c:Operand}{x y:Code}{p:Prop} [Decidable p] (K:ev L c=some (.bool (decide p)))(O:p→JL J Q b n L ds (.code x::k) cs s)(U:¬p→JL J Q b n L ds (.code y::k) cs s):JL J Q b n L ds (.code (.cond c x y)::k) cs s:=
 Ob K (fun h=>O (of_decide_eq_true h)) (fun h=>U (of_decide_eq_false h))
theorem JL.region{id:Nat}{ops:Ao_}(h:JL J Q b n L ds (.inRegion ops (List.range ops.size)::k) cs s):JL J Q b n L ds (.code (.region id ops false)::k) cs s:=fun T K=>Judge.CS rfl (fun w=>by simp [G,stepG,stepG.exec,fr]) (h T K)
theorem JL.done{ops:Ao_}(h:JL J Q b n L ds k cs s):JL J Q b n L ds (.inRegion ops []::k) cs s:=fun T K=>Judge.CS rfl (fun w=>by simp [G,stepG,stepG.exec,fr]) (h T K)
theorem Ox{id:Nat}{ops:Ao_}(K:s.q=false)(hm:P.follows .mixedOrders=true)(h:∀t,JL J Q b n L ds (.inRegion ops (Region.linearise .any ops t)::k) cs s):JL J Q b n L ds (.code (.region id ops true)::k) cs s:=fun T O=>by
 refine J.step ⟨rfl,fun w f=>⟨_,s,{w with drawn:=w.drawn+1},#[],?_,h (w.tape w.drawn (.order b.fn id)) T O,⟨f.e,f.h,f.d⟩,⟨Nat.le_refl _,fun _ _ _=>rfl,fun _ h=> .inl h,fun _ _ h=>h,fun _ h=> .inl h,rfl,rfl,rfl⟩,by simp⟩,fun e=>by subst e;cases K⟩
 simp [G,stepG,stepG.exec,fr,choose,Sem.run,Question.forced,Question.cut,Region.schedule,hm]
theorem Fp(T:Aw)(ops:Ao_)(i:Nat)(rest:List Nat)(v:Value)(o:Oper)(K:ops[i]? =some o):
  (fr b T ds (.inRegion ops (i::rest)::k)).finish v=fr b (Cr T o.dst v) ds (.inRegion ops rest::k):=by
 cases O:o.dst <;> simp [Frame.finish,fr,K,O,Cr]
theorem stepG_op{main:Bool}{T:Aw}{ops:Ao_}{i:Nat}{rest:List Nat}{o:Oper}{w:World}(K:ops[i]? =some o)(hw:Region.wanted o (yielded ops T)=true):
  stepG P main (G (fr b T ds (.inRegion ops (i::rest)::k)) cs) w=
   match b.roundOf,o.op with
   | some l,.defer c=>stepG.apply P true (fr b T ds (.inRegion ops (i::rest)::k)) cs none (do Instr.deferInRound l (← resolve (BB T) c o.type);pure .skip) w
   | _,_=>stepG.apply P true (fr b T ds (.inRegion ops (i::rest)::k)) cs none (execOp (BB T) o) w:=by
 have he:=NS (b:=b) (ds:=ds) T (.inRegion ops (i::rest)::k);simp only [fr] at he;simp only [G,stepG,stepG.exec,fr,K,Option.map_some,Option.getD_some,hw,if_true,stepG.oper,Frame.oper?,he]
 rfl
theorem Eh(T:Aw)(todo:Li_):(fr b T ds todo).fn=b.fn:=rfl
theorem F6(T:Aw)(todo:Li_):(fr b T ds todo).todo=todo:=rfl
def upon(J:Judge P)(Q:Gs_)(b:Frame)(T:Aw)(ds:Ld_)(ops:Ao_)(i:Nat)(rest:List Nat)(k:Li_)(cs:Lf_)(dst:Option Tmp):Next→St→Prop
 | .value v,s=>J.ok Q (G (fr b (Cr T dst v) ds (.inRegion ops rest::k)) cs) s
 | .skip,s=>J.ok Q (G (fr b (Cr T dst undef) ds (.inRegion ops rest::k)) cs) s
 | .defer d,s=>J.ok Q (G (fr b (Cr T dst undef) (d::ds) (.inRegion ops rest::k)) cs) s
 | .enter f args,s=>J.ok Q (G (Frame.enter P f args .normal) (fr b T ds (.inRegion ops (i::rest)::k)::cs)) s
 | .round l f tmps assign body,s=>J.ok Q (G (Frame.round l f tmps assign body .normal) (fr b T ds (.inRegion ops (i::rest)::k)::cs)) s
 | _,_=>False
def Lh(J:Judge P)(Q:Gs_)(b:Frame)(T:Aw)(ds:Ld_)(ops:Ao_)(i:Nat)(rest:List Nat)(k:Li_)(cs:Lf_):Halt→St→Prop
 | .panic v,s=>J.ok Q (G ((fr b T ds (.inRegion ops (i::rest)::k)).raise [{v,recovered:=false}]) cs) s
 | _,_=>False
theorem Md{s:St}{w w':World}{fn:FuncId}{es:Array Event}(h:∀e∈es,Ev s w w' e):∀e∈seen P fn es,Ev s w w' e:=fun e he=>h e (mem_seen he)
theorem Judge.oper{T:Aw}{ops:Ao_}{i:Nat}{rest:List Nat}{o:Oper}(ab:ops[i]? =some o)(hw:Region.wanted o (yielded ops T)=true)(ak:b.kind≠ .early)
  (ac:b.roundOf=none∨∀c,o.op≠ .defer c)
  (h:lp P (execOp (BB T) o) s (upon J Q b T ds ops i rest k cs o.dst) (Lh J Q b T ds ops i rest k cs)):
  J.ok Q (G (fr b T ds (.inRegion ops (i::rest)::k)) cs) s:=by
 have U:((fr b T ds (.inRegion ops (i::rest)::k)).kind==CallKind.early)=false:=by simpa [fr] using ak
 have ai:∀w,stepG P J.main (G (fr b T ds (.inRegion ops (i::rest)::k)) cs) w=stepG.apply P true (fr b T ds (.inRegion ops (i::rest)::k)) cs none (execOp (BB T) o) w:=by
  intro w;rw [stepG_op ab hw];split
  ·rename_i l c aj e2;rcases ac with ac | ac
   ·rw [ac] at aj;cases aj
   ·exact absurd e2 (ac c)
  ·rfl
 refine J.step ⟨rfl,fun w f=>?_,fun e=>?_⟩
 rotate_left
 ·subst e;simp only [ai];have ae:=fun v=>Fp (b:=b) (ds:=ds) (k:=k) T ops i rest v o ab;obtain⟨es,he,V,h⟩:=L3 _ h;have aa:seen P b.fn es= #[]:=LI V;rcases h with⟨ag,K,O⟩ | ⟨x,K,O⟩
  ·cases ag with
   | value v=>exact⟨_,fun w=>by simp [stepG.apply,O,U,GStep.after,G,ae,Eh,he,aa],K⟩
   | skip=>exact⟨_,fun w=>by simp [stepG.apply,O,U,GStep.after,G,ae,Eh,he,aa],K⟩
   | enter g args=>exact⟨_,fun w=>by simp [stepG.apply,O,U,GStep.after,G,Eh,F6,he,aa],K⟩
   | round l g al as am=>exact⟨_,fun w=>by simp [stepG.apply,O,U,GStep.after,G,Eh,F6,he,aa],K⟩
   | defer d=>
    have ah:=Fp (b:=b) (ds:=d::ds) (k:=k) T ops i rest undef o ab;exact⟨_,fun w=>by rw [← ah];simp [stepG.apply,O,U,GStep.after,G,Eh,F6,he,aa];rfl,K⟩
   | _=>exact K.elim
  ·cases x with
   | panic v=>exact⟨_,fun w=>by simp [stepG.apply,O,U,GStep.after,G,Eh,F6,he,aa],K⟩
   | _=>exact K.elim
 obtain⟨s',Y,Z,an,K⟩:=Kl _ h f;rw [ai];have V:=Md (P:=P) (fn:=b.fn) an;have ae:=fun v=>Fp (b:=b) (ds:=ds) (k:=k) T ops i rest v o ab;cases O:(execOp (BB T) o).run P w with
 | ok ag w'=>
  rw [O] at Y Z K V;simp only [HS] at Y Z V;cases ag with
  | value v=>exact⟨_,s',w',seen P b.fn ((execOp (BB T) o).events P w #[])++ #[],by simp [stepG.apply,O,U,GStep.after,G,ae,Eh],K,Y,Z,by simpa using V⟩
  | skip=>exact⟨_,s',w',seen P b.fn ((execOp (BB T) o).events P w #[])++ #[],by simp [stepG.apply,O,U,GStep.after,G,ae,Eh],K,Y,Z,by simpa using V⟩
  | enter g args=>exact⟨_,s',w',seen P b.fn ((execOp (BB T) o).events P w #[])++ #[],by simp [stepG.apply,O,U,GStep.after,G,Eh,F6],K,Y,Z,by simpa using V⟩
  | round l g al as am=>exact⟨_,s',w',seen P b.fn ((execOp (BB T) o).events P w #[])++ #[],by simp [stepG.apply,O,U,GStep.after,G,Eh,F6],K,Y,Z,by simpa using V⟩
  | defer d=>
   have ah:=Fp (b:=b) (ds:=d::ds) (k:=k) T ops i rest undef o ab;exact⟨_,s',w',seen P b.fn ((execOp (BB T) o).events P w #[])++ #[],by
    rw [← ah];simp [stepG.apply,O,U,GStep.after,G,Eh,F6];rfl,K,Y,Z,by simpa using V⟩
  | _=>exact K.elim
 | halt x w'=>
  rw [O] at Y Z K V;simp only [HS] at Y Z V;cases x with
  | panic v=>exact⟨_,s',w',seen P b.fn ((execOp (BB T) o).events P w #[])++ #[],by simp [stepG.apply,O,U,GStep.after,G,Eh,F6],K,Y,Z,by simpa using V⟩
  | _=>exact K.elim
theorem Judge.unwanted{T:Aw}{ops:Ao_}{i:Nat}{rest:List Nat}{o:Oper}(K:ops[i]? =some o)(hw:Region.wanted o (yielded ops T)=false)
  (h:J.ok Q (G (fr b (Cr T o.dst undef) ds (.inRegion ops rest::k)) cs) s):J.ok Q (G (fr b T ds (.inRegion ops (i::rest)::k)) cs) s:=by
 refine Judge.CS rfl (fun w=>?_) h;have O:=Fp (b:=b) (ds:=ds) (k:=k) T ops i rest undef o K;rw [← O];simp [G,stepG,stepG.exec,fr,K,hw]
end
end Pal
namespace Pal
open Go Go.Conc
def Yl(P:Program)(o:Oper)(ρ:Operand→Value)(s:St)(v:Value):Prop:=lp P (execOp ρ o) s (fun K s'=>K= .value v∧s'=s) (fun _ _=>False)
def DJ(L:Env)(ρ:Operand→Value):Prop:=∀x v,ev L x=some v→ρ x=v
def A5(L:Env)(ops:Ao_)(o:Oper):Option Bool:=
 match o.guard with
 | none=>some true
 | some (j,K)=>match(ops[j]?).bind (·.dst) with
  | some d=>match look L d with
   | some (.bool b)=>some (b==K)
   | some (.tuple _)=>some false
   | _=>none
  | none=>none
section
variable {P:Program}{J:Judge P}{Q:Gs_}{b:Frame}{n:Nat}{L L':Env}{ds:Ld_}{k:Li_}{cs:Lf_}{s s':St}
theorem Has.Fx{T:Aw}(h:Has n L T):DJ L (BB T):=fun _ _ e=>h.ev e
theorem getD_some{T:Aw}{d:Nat}{c:Bool}(h:T.getD d undef= .bool c):T[d]? =some (.bool c):=by
 rw [Array.getD_eq_getD_getElem?] at h;cases K:T[d]? with
 | none=>rw [K] at h;simp [undef] at h
 | some v=>rw [K] at h;simp at h;rw [h]
theorem CL{T:Aw}{ops:Ao_}{o:Oper}{c:Bool}(h:Has n L T)(hw:A5 L ops o=some c):Region.wanted o (yielded ops T)=c:=by
 unfold A5 at hw;unfold Region.wanted;cases hg:o.guard with
 | none=>rw [hg] at hw;simpa using hw
 | some p=>
  obtain⟨j,V⟩:=p;rw [hg] at hw;simp only at hw ⊢;cases K:(ops[j]?).bind (·.dst) with
  | none=>rw [K] at hw;simp at hw
  | some d=>
   rw [K] at hw;simp only at hw;cases O:look L d with
   | none=>rw [O] at hw;simp at hw
   | some v=>
    rw [O] at hw;cases v with
    | bool x=>
     simp only [Option.some.injEq] at hw;have:=getD_some (h.at_ d _ O);simp only [yielded,K,Option.bind_some,this];simp [← hw]
    | tuple c=>
     simp only [Option.some.injEq] at hw;have hg:=h.at_ d _ O;simp only [yielded,K,Option.bind_some];cases U:T[d]? with
     | none=>simp [← hw]
     | some u=>
      have:u= .tuple c:=by rw [Array.getD_eq_getD_getElem?,U] at hg;exact hg
      subst this;simp [← hw]
    | _=>simp at hw
def CV:Op→Bool | .defer _=>true | _=>false
def Ct(b:Frame)(n:Nat)(o:Oper):Bool:=(b.kind != .early)&&(Bs n o.dst&& !CV o.op)
theorem Yl.out{P:Program}{o:Oper}{ρ:Operand→Value}{s:St}{v:Value}(h:Yl P o ρ s v):Pal.lp P (execOp ρ o) s (fun K s'=>K= .value v∧s'=s) (fun _ _=>False):=by unfold Yl at h;exact h
theorem AY{ops:Ao_}{i:Nat}{rest:List Nat}{o:Oper}{v:Value}(V:ops[i]? =some o)(hw:A5 L ops o=some true)(K:Ct b n o=true)
  (h:∀ρ,DJ L ρ→Yl P o ρ s v) (Y:JL J Q b n (Ax L o.dst v) ds (.inRegion ops rest::k) cs s):
  JL J Q b n L ds (.inRegion ops (i::rest)::k) cs s:=fun T O=>by
 simp only [Ct,Bool.and_eq_true] at K
 obtain⟨K,Z,U⟩:=K
 refine Judge.oper V (CL O hw) (by simpa using K) (.inr fun c aa=>by rw [aa] at U;simp [CV] at U) (CO _ (h _ O.Fx).out ?_ ?_)
 ·rintro ac s' ⟨rfl,rfl⟩
  exact Y _ (O.put Z v)
 ·intro _ _ ab;exact ab.elim
theorem P0{ops:Ao_}{i:Nat}{rest:List Nat}{o:Oper}(O:ops[i]? =some o)(hw:A5 L ops o=some false)(U:Bs n o.dst=true)
  (V:JL J Q b n (Ax L o.dst undef) ds (.inRegion ops rest::k) cs s):
  JL J Q b n L ds (.inRegion ops (i::rest)::k) cs s:=fun _ K=>
 Judge.unwanted O (CL K hw) (V _ (K.put U undef))
theorem JL.op{ops:Ao_}{i:Nat}{rest:List Nat}{o:Oper}(aa:ops[i]? =some o)(hw:A5 L ops o=some true)(K:Ct b n o=true)
  (h:∀ρ,DJ L ρ→lp P (execOp ρ o) s (fun U s'=>match U with
   | .value v=>JL J Q b n (Ax L o.dst v) ds (.inRegion ops rest::k) cs s'
   | .skip=>JL J Q b n (Ax L o.dst undef) ds (.inRegion ops rest::k) cs s'
   | _=>False) (fun _ _=>False)):
  JL J Q b n L ds (.inRegion ops (i::rest)::k) cs s:=fun T O=>by
 simp only [Ct,Bool.and_eq_true] at K
 obtain⟨K,Y,Z⟩:=K
 refine Judge.oper aa (CL O hw) (by simpa using K) (.inr fun c ab=>by rw [ab] at Z;simp [CV] at Z) (CO _ (h _ O.Fx) ?_ ?_)
 ·intro U s' V
  cases U with
  | value v=>exact V _ (O.put Y v)
  | skip=>exact V _ (O.put Y undef)
  | _=>exact V.elim
 ·intro _ _ ac;exact ac.elim
end
section
variable {P:Program}{ρ:Operand→Value}{s:St}{x y z:Operand}{d:Option Tmp}{t u ty:TypeId}{p:String}{af:Ae_}{g:On_}{v:Value}{kd kd':IntKind}{m m':Int}
theorem Yl.move(K:ρ x=v):Yl P ⟨d,.move x,ty,p,af,g⟩ ρ s v:=by simp [Yl,execOp,lp,pure,K]
theorem Yl.assign(K:ρ x=v):Yl P ⟨d,.assign x,ty,p,af,g⟩ ρ s v:=by simp [Yl,execOp,lp,pure,K]
theorem Rg(K:ρ z= .bool true)(O:ρ x=v):Yl P ⟨d,.pick z x y,ty,p,af,g⟩ ρ s v:=by simp [Yl,execOp,lp,pure,bind,Sem.bind,asBool,K,O]
theorem Ro(K:ρ z= .bool false)(O:ρ y=v):Yl P ⟨d,.pick z x y,ty,p,af,g⟩ ρ s v:=by simp [Yl,execOp,lp,pure,bind,Sem.bind,asBool,K,O]
theorem Yl.lss(K:ρ x= .int kd m)(O:ρ y= .int kd m'):Yl P ⟨d,.binOp .lss t x y u,ty,p,af,g⟩ ρ s (.bool (decide (m<m'))):=by
 simp [Yl,execOp,lp,pure,bind,Sem.bind,K,O,eqGuard,Go.binOp,Op.intCmp]
theorem Yl.leq(K:ρ x= .int kd m)(O:ρ y= .int kd m'):Yl P ⟨d,.binOp .leq t x y u,ty,p,af,g⟩ ρ s (.bool (decide (m≤m'))):=by
 simp [Yl,execOp,lp,pure,bind,Sem.bind,K,O,eqGuard,Go.binOp,Op.intCmp]
theorem Yl.gtr(K:ρ x= .int kd m)(O:ρ y= .int kd m'):Yl P ⟨d,.binOp .gtr t x y u,ty,p,af,g⟩ ρ s (.bool (decide (m'<m))):=by
 simp [Yl,execOp,lp,pure,bind,Sem.bind,K,O,eqGuard,Go.binOp,Op.intCmp]
theorem Yl.geq(K:ρ x= .int kd m)(O:ρ y= .int kd m'):Yl P ⟨d,.binOp .geq t x y u,ty,p,af,g⟩ ρ s (.bool (decide (m'≤m))):=by
 simp [Yl,execOp,lp,pure,bind,Sem.bind,K,O,eqGuard,Go.binOp,Op.intCmp]
theorem Yl.eql(K:ρ x= .int kd m)(O:ρ y= .int kd m'):Yl P ⟨d,.binOp .eql t x y u,ty,p,af,g⟩ ρ s (.bool (decide (m=m'))):=by
 simp [Yl,execOp,lp,pure,bind,Sem.bind,K,O,eqGuard,Go.binOp,Op.intCmp];rfl
theorem Yl.neq(K:ρ x= .int kd m)(O:ρ y= .int kd m'):Yl P ⟨d,.binOp .neq t x y u,ty,p,af,g⟩ ρ s (.bool (!decide (m=m'))):=by
 simp [Yl,execOp,lp,pure,bind,Sem.bind,K,O,eqGuard,Go.binOp,Op.intCmp];rfl
theorem Yl.add(K:ρ x= .int kd m)(O:ρ y= .int kd m'):Yl P ⟨d,.binOp .add t x y u,ty,p,af,g⟩ ρ s (.int kd (kd.wrap (m+m'))):=by
 simp [Yl,execOp,lp,pure,bind,Sem.bind,K,O,eqGuard,Go.binOp,Op.intArith]
theorem Yl.sub(K:ρ x= .int kd m)(O:ρ y= .int kd m'):Yl P ⟨d,.binOp .sub t x y u,ty,p,af,g⟩ ρ s (.int kd (kd.wrap (m - m'))):=by
 simp [Yl,execOp,lp,pure,bind,Sem.bind,K,O,eqGuard,Go.binOp,Op.intArith]
theorem Yl.mul(K:ρ x= .int kd m)(O:ρ y= .int kd m'):Yl P ⟨d,.binOp .mul t x y u,ty,p,af,g⟩ ρ s (.int kd (kd.wrap (m*m'))):=by
 simp [Yl,execOp,lp,pure,bind,Sem.bind,K,O,eqGuard,Go.binOp,Op.intArith]
theorem I4{a:Int}(h: -9223372036854775808≤a∧a≤9223372036854775807):IntKind.i64.wrap a=a:=by
 simp only [IntKind.wrap,IntKind.bits,IntKind.signed];simp;split <;> omega
theorem SM(K:ρ x= .int .i64 m)(O:ρ y= .int .i64 m')(hb: -9223372036854775808≤m+m'∧m+m'≤9223372036854775807):Yl P ⟨d,.binOp .add t x y u,ty,p,af,g⟩ ρ s (.int .i64 (m+m')):=by
 have:=Yl.add (P:=P) (s:=s) (d:=d) (t:=t) (u:=u) (ty:=ty) (p:=p) (af:=af) (g:=g) K O;rwa [I4 hb] at this
theorem Tk(K:ρ x= .int .i64 m)(O:ρ y= .int .i64 m')(hb: -9223372036854775808≤m - m'∧m - m'≤9223372036854775807):Yl P ⟨d,.binOp .sub t x y u,ty,p,af,g⟩ ρ s (.int .i64 (m - m')):=by
 have:=Yl.sub (P:=P) (s:=s) (d:=d) (t:=t) (u:=u) (ty:=ty) (p:=p) (af:=af) (g:=g) K O;rwa [I4 hb] at this
theorem Tt(K:ρ x= .int .i64 m)(O:ρ y= .int .i64 m')(hb: -9223372036854775808≤m*m'∧m*m'≤9223372036854775807):Yl P ⟨d,.binOp .mul t x y u,ty,p,af,g⟩ ρ s (.int .i64 (m*m')):=by
 have:=Yl.mul (P:=P) (s:=s) (d:=d) (t:=t) (u:=u) (ty:=ty) (p:=p) (af:=af) (g:=g) K O;rwa [I4 hb] at this
theorem Yl.quo(K:ρ x= .int kd m)(O:ρ y= .int kd m')(U:m'≠0):Yl P ⟨d,.binOp .quo t x y u,ty,p,af,g⟩ ρ s (.int kd (kd.wrap (m.tdiv m'))):=by
 simp [Yl,execOp,lp,pure,bind,Sem.bind,K,O,eqGuard,Go.binOp,Op.intDiv,U]
theorem Yl.and(K:ρ x= .int kd m)(O:ρ y= .int kd m'):Yl P ⟨d,.binOp .and t x y u,ty,p,af,g⟩ ρ s (.int kd (kd.wrap (BitVec.ofInt kd.bits m&&& BitVec.ofInt kd.bits m').toNat)):=by
 simp [Yl,execOp,lp,pure,bind,Sem.bind,K,O,eqGuard,Go.binOp,Op.intBits]
theorem Yl.or(K:ρ x= .int kd m)(O:ρ y= .int kd m'):Yl P ⟨d,.binOp .or t x y u,ty,p,af,g⟩ ρ s (.int kd (kd.wrap (BitVec.ofInt kd.bits m ||| BitVec.ofInt kd.bits m').toNat)):=by
 simp [Yl,execOp,lp,pure,bind,Sem.bind,K,O,eqGuard,Go.binOp,Op.intBits]
theorem Yl.shl(K:ρ x= .int kd m)(O:ρ y= .int kd' m')(U:0≤m'):Yl P ⟨d,.binOp .shl t x y u,ty,p,af,g⟩ ρ s (.int kd (kd.wrap (m*2 ^ (min m'.toNat kd.bits)))):=by
 have:¬m'<0:=by omega
 simp [Yl,execOp,lp,pure,bind,Sem.bind,K,O,eqGuard,Go.binOp,Op.shift,this]
theorem Yl.shr(K:ρ x= .int kd m)(O:ρ y= .int kd' m')(U:0≤m'):Yl P ⟨d,.binOp .shr t x y u,ty,p,af,g⟩ ρ s (.int kd (m.fdiv (2 ^ (min m'.toNat kd.bits)))):=by
 have:¬m'<0:=by omega
 simp [Yl,execOp,lp,pure,bind,Sem.bind,K,O,eqGuard,Go.binOp,Op.shift,this]
theorem Yl.not{c:Bool}(K:ρ x= .bool c):Yl P ⟨d,.unOp .not t x,ty,p,af,g⟩ ρ s (.bool (!c)):=by
 simp [Yl,execOp,lp,pure,bind,Sem.bind,K,Op.unary]
theorem DO(ht:P.underlying t=some (.int kd'))(hu:P.underlying u=some (.int kd))(K:ρ x= .int kd' m):Yl P ⟨d,.convert t u x,ty,p,af,g⟩ ρ s (.int kd (kd.wrap m)):=by
 simp [Yl,execOp,lp,pure,bind,Sem.bind,K,Go.convert,underlying,program,ht,hu,Conv.intToInt]
theorem Yl.extract{vs:Aw}{i:Nat}(K:ρ x= .tuple vs)(hi:vs[i]? =some v):Yl P ⟨d,.extract x i,ty,p,af,g⟩ ρ s v:=by
 simp [Yl,execOp,lp,pure,bind,Sem.bind,K,Instr.extract,hi]
theorem Yl.nilCheck{a:Addr}(K:ρ x= .pointer (some a)):Yl P ⟨d,.nilCheck x,ty,p,af,g⟩ ρ s (.pointer (some a)):=by
 simp [Yl,execOp,lp,pure,K]
theorem Yl.len{a:Option Addr}{e:TypeId}{l c:Nat}{ats:Array TypeId}(K:ats[0]? =some t)(ht:P.underlying t=some (.slice e))(O:ρ x= .slice a l c):
  Yl P ⟨d,.call ⟨.builtin .len,#[x],ats⟩,ty,p,af,g⟩ ρ s (.int .i64 l):=by
 simp [Yl,execOp,lp,pure,bind,Sem.bind,O,resolve,invoke,builtin,Builtin.len_,K,underlying,program,ht,goInt]
theorem Ed{K:TypeDesc}(ht:P.underlying t=some K)(O:∀ms,K≠ .interface ms)(U:ρ x=v):Yl P ⟨d,.makeInterface t x,ty,p,af,g⟩ ρ s (.iface t v):=by
 have:lp P (Instr.makeInterface t v) s (fun r s'=>r= .iface t v∧s'=s) (fun _ _=>False):=by
  unfold Instr.makeInterface;simp only [lp,bind,Sem.bind,underlying,program,ht];cases K <;> first | exact⟨rfl,rfl⟩ | exact absurd rfl (O _)
 simp only [Yl,execOp,U];exact Ay _ _ (CO _ this (fun r s' ⟨V,Y⟩=>⟨by rw [V],Y⟩) (fun _ _ h=>h))
theorem HD{fn:Fn}{a c:Array Operand}{K O:Aw}(U:a.map ρ=K)(V:c.map ρ=O):Yl P ⟨d,.makeFunc fn a c,ty,p,af,g⟩ ρ s (.func fn K O):=by
 simp [Yl,execOp,lp,pure,bind,Sem.bind,Instr.makeFunc,U,V]
end
attribute [irreducible] Yl
end Pal
namespace Pal
open Go Go.Conc
def Le(E E':LH):Prop:=∀b o,E b=some o→E' b=some o
theorem Le.refl(E:LH):Le E E:=fun _ _ h=>h
theorem Le.trans{E E' K:LH}(h:Le E E')(k:Le E' K):Le E K:=fun b o x=>k b o (h b o x)
theorem Ak{E:LH}:Le E E:=Le.refl E
theorem Le.Aa{a b c:LH}(h:Le a b)(k:Le b c):Le a c:=h.trans k
def A9:List (Nat×Obj)→LH→LH
 | [],H=>H
 | (b,o)::B,H=>fun x=>if x=b then some o else A9 B H x
def mk(E H:LH)(B:List (Nat×Obj)):St:=⟨E,A9 B H,false⟩
def Nd(E H:LH):List (Nat×Obj)→Prop
 | []=>True
 | (b,_)::B=>E b=none∧H b=none∧(∀p∈B,p.1≠b)∧Nd E H B
theorem Nf{H:LH}{b:Nat}:∀{B:List (Nat×Obj)},H b=none→(∀p∈B,p.1≠b)→A9 B H b=none
 | [],h,_=>h
 | (c,o)::B,h,hb=>by
  have K:b≠c:=fun e=>hb (c,o) (by simp) e.symm
  simp only [A9,if_neg K]
  exact Nf h fun p O=>hb p (List.mem_cons_of_mem _ O)
theorem F2{H:LH}{b:Nat}:∀{B:List (Nat×Obj)},A9 B H b=none→H b=none∧∀p∈B,p.1≠b
 | [],h=>⟨h,by simp⟩
 | (c,o)::B,h=>by
  simp only [A9] at h
  split at h
  ·cases h
  ·rename_i O;obtain⟨U,V⟩:=F2 h;refine⟨U,fun p K=>?_⟩;rcases List.mem_cons.1 K with rfl | K
   ·exact fun e=>O e.symm
   ·exact V p K
theorem MZ{H:LH}{x:Nat}{o:Obj}{r:Nat}:∀{B:List (Nat×Obj)},(∀p∈B,p.1≠r)→A9 (B++ [(r,o)]) H x=if x=r then some o else A9 B H x
 | [],_=>rfl
 | (c,u)::B,h=>by
  simp only [List.cons_append,A9]
  by_cases e:x=c
  ·subst e
   have:x≠r:=fun e=>h (x,u) (by simp) e;simp [this]
  ·simp only [if_neg e];exact MZ fun p K=>h p (List.mem_cons_of_mem _ K)
theorem Nd.append{E H:LH}{r:Nat}{o:Obj}(O:E r=none)(U:H r=none):∀{B:List (Nat×Obj)},(∀p∈B,p.1≠r)→Nd E H B→Nd E H (B++ [(r,o)])
 | [],_,_=>⟨O,U,by simp,trivial⟩
 | (c,u)::B,h,V=>by
  obtain⟨Y,Z,aa,ab⟩:=V
  refine⟨Y,Z,fun p K=>?_,Nd.append O U (fun p K=>h p (List.mem_cons_of_mem _ K)) ab⟩
  rcases List.mem_append.1 K with K | K
  ·exact aa p K
  ·simp at K;subst K;exact fun e=>h (c,u) (by simp) e.symm
theorem GO{E H:LH}{b:Nat}{o:Obj}:∀{B:List (Nat×Obj)} {i:Nat},Nd E H B→B[i]? =some (b,o)→A9 B H b=some o
 | [],_,_,h=>by simp at h
 | (c,u)::B,0,_,h=>by simp at h;obtain⟨rfl,rfl⟩:=h;simp [A9]
 | (c,u)::B,i+1,K,h=>by
  simp at h
  have O:b≠c:=K.2.2.1 (b,o) (List.mem_of_getElem? h)
  simp only [A9,if_neg O]
  exact GO K.2.2.2 h
theorem Nz{E H:LH}{b:Nat}{o o':Obj}:∀{B:List (Nat×Obj)} {i:Nat},Nd E H B→B[i]? =some (b,o)→A9 (B.set i (b,o')) H=fun x=>if x=b then some o' else A9 B H x
 | [],_,_,h=>by simp at h
 | (c,u)::B,0,_,h=>by
  simp at h;obtain⟨rfl,rfl⟩:=h
  funext x
  simp only [List.set_cons_zero,A9]
  split <;> rfl
 | (c,u)::B,i+1,K,h=>by
  simp at h
  have O:b≠c:=K.2.2.1 (b,o) (List.mem_of_getElem? h)
  funext x
  simp only [List.set_cons_succ,A9]
  rw [Nz K.2.2.2 h]
  by_cases e:x=c
  ·subst e;simp [Ne.symm O]
  ·simp [e]
theorem Nd.set{E H:LH}{b:Nat}{o o':Obj}:∀{B:List (Nat×Obj)} {i:Nat},Nd E H B→B[i]? =some (b,o)→Nd E H (B.set i (b,o'))
 | [],_,_,h=>by simp at h
 | (c,u)::B,0,K,h=>by simp at h;obtain⟨rfl,rfl⟩:=h;exact K
 | (c,u)::B,i+1,K,h=>by
  simp at h
  refine⟨K.1,K.2.1,fun p O=>?_,K.2.2.2.set h⟩
  have hm:=List.mem_or_eq_of_mem_set O
  rcases hm with hm | rfl
  ·exact K.2.2.1 p hm
  ·exact K.2.2.1 (b,o) (List.mem_of_getElem? h)
theorem Nd.Ot{E H:LH}{b:Nat}{o:Obj}:∀{B:List (Nat×Obj)} {i:Nat},Nd E H B→B[i]? =some (b,o)→E b=none
 | [],_,_,h=>by simp at h
 | (c,u)::B,0,K,h=>by simp at h;obtain⟨rfl,rfl⟩:=h;exact K.1
 | (c,u)::B,i+1,K,h=>by simp at h;exact Nd.Ot K.2.2.2 h
theorem LN{E H:LH}{B:List (Nat×Obj)}{i b:Nat}{o:Obj}(K:Nd E H B)(h:B[i]? =some (b,o)):(mk E H B).get b=some o:=by
 unfold St.get mk;simp only [K.Ot h,GO K h]
theorem QK{E H:LH}{B:List (Nat×Obj)}{b:Nat}{o:Obj}(h:E b=some o):(mk E H B).get b=some o:=by
 unfold St.get mk;simp only [h]
theorem NL{E H:LH}{B:List (Nat×Obj)}{i b off:Nat}{c:Aw}{e:TypeId}{f:Nat×Nat}{v:Value}(K:Nd E H B)(h:B[i]? =some (b,.cells c e f))(O:c[off]? =some v):(mk E H B).cell? ⟨b,off,none⟩=some v:=by
 unfold St.cell?;rw [LN K h];exact O
theorem RQ{E H:LH}{B:List (Nat×Obj)}{b off:Nat}{c:Aw}{e:TypeId}{f:Nat×Nat}{v:Value}(h:E b=some (.cells c e f))(K:c[off]? =some v):(mk E H B).cell? ⟨b,off,none⟩=some v:=by
 unfold St.cell?;rw [QK h];exact K
section
variable {P:Program}{J:Judge P}{Q:Gs_}{b:Frame}{n:Nat}{L L':Env}{ds:Ld_}{k:Li_}{cs:Lf_}{E H:LH}{B B':List (Nat×Obj)}
theorem HG{r:Nat}(O:(mk E H B).E r=none)(U:(mk E H B).H r=none)(o:Obj)(V:Nd E H B):Nd E H (B++ [(r,o)])∧(mk E H B).upd r o=mk E H (B++ [(r,o)]):=by
 obtain⟨Y,K⟩:=F2 U;refine⟨Nd.append O Y K V,?_⟩;unfold St.upd mk;congr 1;funext x;exact(MZ K).symm
theorem Ug{i bk:Nat}{o o':Obj}(K:Nd E H B)(h:B[i]? =some (bk,o)):(mk E H B).upd bk o'=mk E H (B.set i (bk,o')):=by
 unfold St.upd mk;congr 1;exact(Nz K h).symm
theorem JL.drop(B':List (Nat×Obj))(h:∀p∈B',∃i:Nat,B[i]? =some p)(U:Nd E H B)(k':JL J Q b n L ds k cs (mk E H B')):JL J Q b n L ds k cs (mk E H B):=
 JL.ghost (s':=mk E H B') ⟨fun _ _ h=>h,fun x o O=>by
  show A9 B H x=some o
  have key:∀{B':List (Nat×Obj)},(∀p∈B',∃i:Nat,B[i]? =some p)→A9 B' H x=some o→A9 B H x=some o:=by
   intro B'
   induction B' with
   | nil=>
    intro _ O
    have ab:∀p∈B,p.1≠x:=by
     intro p K e
     have:∀{B:List (Nat×Obj)},Nd E H B→p∈B→H p.1=none:=by
      intro B U K
      induction B with
      | nil=>simp at K
      | cons q B V=>
       rcases List.mem_cons.1 K with rfl | K
       ·exact U.2.1
       ·exact V U.2.2.2 K
     have Z:=this U K
     rw [e] at Z
     have aa:H x=some o:=O
     rw [Z] at aa;cases aa
    have:∀{B:List (Nat×Obj)},(∀p∈B,p.1≠x)→A9 B H x=H x:=by
     intro B Y
     induction B with
     | nil=>rfl
     | cons q B V=>
      have ac:x≠q.1:=fun e=>Y q (by simp) e.symm
      obtain⟨c,u⟩:=q
      simp only [A9,if_neg ac]
      exact V fun p K=>Y p (List.mem_cons_of_mem _ K)
    rw [this ab];exact O
   | cons q B' V=>
    intro Y O
    obtain⟨c,u⟩:=q
    simp only [A9] at O
    split at O
    ·rename_i e;subst e;cases O
     obtain⟨i,hi⟩:=Y (x,o) (by simp)
     exact GO U hi
    ·exact V (fun p K=>Y p (List.mem_cons_of_mem _ K)) O
  exact key h O,fun _ _ h=> .inl h,rfl⟩ k'
theorem IY{x:Nat}:∀{B:List (Nat×Obj)} {i:Nat} {bk:Nat} {o u:Obj},Nd E H B→B[i]? =some (bk,o)→A9 (B.eraseIdx i) H x=some u→x≠bk∧A9 B H x=some u
 | [],_,_,_,_,_,h,_=>by simp at h
 | (c,v)::B,0,bk,o,u,O,h,K=>by
  simp at h;obtain⟨rfl,rfl⟩:=h
  simp only [List.eraseIdx_cons_zero] at K
  have U:x≠c:=by
   intro e;subst e;rw [Nf O.2.1 O.2.2.1] at K;cases K
  exact⟨U,by simp only [A9,if_neg U];exact K⟩
 | (c,v)::B,i+1,bk,o,u,O,h,K=>by
  simp at h;simp only [List.eraseIdx_cons_succ,A9] at K ⊢;split at K
  ·rename_i e;subst e;rw [if_pos rfl];exact⟨fun e=>O.2.2.1 (bk,o) (List.mem_of_getElem? h) e.symm,K⟩
  ·rename_i e;rw [if_neg e];exact IY O.2.2.2 h K
theorem JL.freeze(i:Nat){bk:Nat}{o:Obj}(K:Nd E H B)(h:B[i]? =some (bk,o))
  (k':∀E',Le E E'→E' bk=some o→Nd E' H (B.eraseIdx i)→JL J Q b n L ds k cs (mk E' H (B.eraseIdx i))):JL J Q b n L ds k cs (mk E H B):=by
 have ae:=List.mem_of_getElem? h;have ag:E bk=none∧H bk=none:=by
  have:∀{B:List (Nat×Obj)},Nd E H B→(bk,o)∈B→E bk=none∧H bk=none:=by
   intro B K O
   induction B with
   | nil=>simp at O
   | cons q B V=>
    rcases List.mem_cons.1 O with rfl | O
    ·exact⟨K.1,K.2.1⟩
    ·exact V K.2.2.2 O
  exact this K ae
 let E':LH:=fun x=>if x=bk then some o else E x
 have aa:E' bk=some o:=by simp [E']
 have hle:Le E E':=fun x u U=>by
  have:x≠bk:=fun e=>by subst e;rw [ag.1] at U;cases U
  simp [E',this,U]
 have ah:Nd E' H (B.eraseIdx i):=by
  have:∀{B:List (Nat×Obj)} {i:Nat},Nd E H B→B[i]? =some (bk,o)→Nd E' H (B.eraseIdx i)∧∀p∈B.eraseIdx i,p.1≠bk:=by
   intro B
   induction B with
   | nil=>intro i _ h;simp at h
   | cons q B V=>
    obtain⟨c,v⟩:=q;intro i K h;have up:∀{B:List (Nat×Obj)},Nd E H B→(∀p∈B,p.1≠bk)→Nd E' H B:=by
     intro B K ab
     induction B with
     | nil=>trivial
     | cons q B ai=>exact⟨by simpa [E',ab q (by simp)] using K.1,K.2.1,K.2.2.1,ai K.2.2.2 fun p O=>ab p (List.mem_cons_of_mem _ O)⟩
    cases i with
    | zero=>
     simp at h;obtain⟨rfl,rfl⟩:=h;exact⟨up K.2.2.2 K.2.2.1,K.2.2.1⟩
    | succ i=>
     simp at h;obtain⟨Y,Z⟩:=V K.2.2.2 h;have ac:c≠bk:=fun e=>K.2.2.1 (bk,o) (List.mem_of_getElem? h) e.symm;refine⟨⟨by simpa [E',ac] using K.1,K.2.1,fun p O=>K.2.2.1 p (List.mem_of_mem_eraseIdx O),Y⟩,fun p O=>?_⟩;rcases List.mem_cons.1 O with rfl | O
     ·exact ac
     ·exact Z p O
  exact(this K h).1
 refine JL.ghost (s':=mk E' H (B.eraseIdx i)) ⟨fun x u U=>hle x u U,fun x u U=>(IY K h U).2,fun x u U=>?_,rfl⟩ (k' E' hle aa ah);by_cases e:x=bk
 ·subst e;right;have:u=o:=by have:E' x=some u:=U;rw [aa] at this;exact(Option.some.inj this).symm
  subst this;refine⟨GO K h,?_⟩;cases aj:(mk E' H (B.eraseIdx i)).H x with
  | none=>rfl
  | some y=>exact absurd rfl (IY K h aj).1
 ·left;have Y:E' x=some u:=U;have Z:E' x=E x:=by simp [E',e]
  show E x=some u;rw [← Z];exact Y
def Fn(P:Program)(f:FuncId)(args:Aw)(s:St)(R:Value→St→Prop):Prop:=
 ∀(J:Judge P) (Q:Gs_) (c:Frame) (cs:Lf_),(∀v s',R v s'→J.ok Q (G (c.finish v) cs) s')→J.ok Q (G (Frame.enter P f args .normal) (c::cs)) s
def Dj(P:Program)(f:FuncId):Bool:=match P.funcs[f]? with | some fn=> !(fn.name== "runtime.NumGoroutine")&&fn.body.isSome | none=>false
def evs(L:Env):List Operand→Option (Lv_)
 | []=>some []
 | x::xs=>match ev L x,evs L xs with | some v,some vs=>some (v::vs) | _,_=>none
theorem EX{L:Env}{ρ:Operand→Value}(h:DJ L ρ):∀{xs:List Operand} {vs:Lv_},evs L xs=some vs→xs.map ρ=vs
 | [],vs,e=>by simp [evs] at e;subst e;rfl
 | x::xs,vs,e=>by
  simp only [evs] at e
  split at e
  ·rename_i v ws K O
   cases e;rw [List.map_cons,h x v K,EX h O]
  ·cases e
theorem H2{f:FuncId}{args:Aw}{s:St}{Q:Next→St→Prop}{X:Halt→St→Prop}(K:Dj P f=true)(h:Q (.enter f args) s):lp P (callFunc f args) s Q X:=by
 unfold Dj at K;unfold callFunc;simp only [bind,Sem.bind,program,lp];cases O:P.funcs[f]? with
 | none=>rw [O] at K;cases K
 | some fn=>
  rw [O] at K;simp only [Bool.and_eq_true,Bool.not_eq_true'] at K;have hb:fn.body.isNone=false:=by cases U:fn.body <;> simp_all
  simp only [K.1,hb,Bool.false_eq_true,if_false];exact h
def BP(P:Program)(f:FuncId)(L:Env)(n:Nat)(s:St)(v:Value):Prop:=∃fn,P.funcs[f]? =some fn∧∀T,Has n L T→lp P (results fn T) s (fun u s'=>u=v∧s'=s) (fun _ _=>False)
theorem Judge.leave{T:Aw}{todo:Li_}{c:Frame}{s:St}{v:Value}{fn:Func}(V:b.kind= .normal)(Y:P.funcs[b.fn]? =some fn)(U:lp P (results fn T) s (fun u s'=>u=v∧s'=s) (fun _ _=>False))
  (h:J.ok Q (G (c.finish v) cs) s):J.ok Q (G (DI b T [] todo) (c::cs)) s:=by
 refine J.step ⟨rfl,fun w f=>?_,fun e=>?_⟩
 rotate_left
 ·subst e;obtain⟨es,he,ac,U⟩:=L3 _ U;have ae:seen P b.fn es= #[]:=LI ac;rcases U with⟨u,⟨rfl,_⟩,O⟩ | ⟨x,K,_⟩
  ·exact⟨_,fun w=>by simp [G,stepG,unwind,DI,Y,O,doReturn,V,GStep.after,he,ae],h⟩
  ·exact K.elim
 obtain⟨s',Z,aa,ab,K⟩:=Kl _ U f;cases O:(results fn T).run P w with
 | halt x w'=>rw [O] at K;exact K.elim
 | ok u w'=>
  rw [O] at Z aa ab K;obtain⟨rfl,rfl⟩:=K;exact⟨_,s',w',seen P b.fn ((results fn T).events P w #[])++ #[],by simp [G,stepG,unwind,DI,Y,O,doReturn,V,GStep.after],h,Z,aa,by simp only [Array.append_empty];exact Md ab⟩
theorem JL.ret{s:St}{c:Frame}{v:Value}(O:b.kind= .normal)(U:b.roundOf=none)(K:BP P b.fn L n s v)(h:J.ok Q (G (c.finish v) cs) s):JL J Q b n L [] (.code .ret::k) (c::cs) s:=fun T V=>by
 obtain⟨fn,Y,K⟩:=K
 refine Judge.CS (g':=G (DI b T [] (.code .ret::k)) (c::cs)) rfl (fun w=>by simp [G,stepG,stepG.exec,fr,DI,U]) ?_
 exact Judge.leave O Y (K T V) h
theorem JL.fin{s:St}{c:Frame}{v:Value}(O:b.kind= .normal)(U:b.roundOf=none)(K:BP P b.fn L n s v)(h:J.ok Q (G (c.finish v) cs) s):JL J Q b n L [] [] (c::cs) s:=fun T V=>by
 obtain⟨fn,Y,K⟩:=K
 refine Judge.CS (g':=G (DI b T [] []) (c::cs)) rfl (fun w=>by simp [G,stepG,stepG.exec,fr,DI,U]) ?_
 exact Judge.leave O Y (K T V) h
theorem BP.one{f:FuncId}{fn:Func}{s:St}{t:Tmp}{v:Value}(K:P.funcs[f]? =some fn)(O:fn.results= #[.tmp t])(h:look L t=some v):BP P f L n s v:=
 ⟨fn,K,fun T U=>by
  have e:results fn T=Sem.pure v:=by
   have:=U.at_ t v h
   simp only [results,O,Array.mapM_eq_mapM_toList]
   show Sem.pure (T.getD t undef)=_
   rw [this]
  rw [e];exact⟨rfl,rfl⟩⟩
theorem BP.none{f:FuncId}{fn:Func}{s:St}(K:P.funcs[f]? =some fn)(O:fn.results= #[]):BP P f L n s (.tuple #[]):=
 ⟨fn,K,fun T U=>by
  have e:results fn T=Sem.pure (.tuple #[]):=by
   simp only [results,O,Array.mapM_eq_mapM_toList]
   rfl
  rw [e];exact⟨rfl,rfl⟩⟩
def EO:Nat→Lv_→Env
 | _,[]=> []
 | i,v::vs=>(i,v)::EO (i+1) vs
theorem H4{i:Nat}{vs:Lv_}{t:Nat}{v:Value}(h:look (EO i vs) t=some v):i≤t∧vs[t - i]? =some v:=by
 induction vs generalizing i with
 | nil=>simp [EO,look] at h
 | cons u vs K=>
  simp only [EO,look] at h;split at h
  ·rename_i e;subst e;cases h;simp
  ·rename_i U;obtain⟨V,O⟩:=K h;refine⟨by omega,?_⟩;have:t - i=(t - (i+1))+1:=by omega
   rw [this];simpa using O
end
end Pal
namespace Pal
open Go Go.Conc
def Br(P:Program)(t:TypeId):Option Nat:=(P.info? t).map (·.size)
def CM(P:Program)(t:TypeId):Option Bool:=match P.underlying t with | some (.struct _)=>some true | some (.array _ _)=>some true | some _=>some false | none=>none
def zeroOf(P:Program)(t:TypeId):Option Value:=(P.info? t).bind (·.zero)
section
variable {P:Program}{s:St}{t:TypeId}
theorem En{K:Nat}{Q:Nat→St→Prop}{X:Halt→St→Prop}(h:Br P t=some K)(k:Q K s):lp P (Go.sizeOf t) s Q X:=by
 unfold Br at h;simp only [Go.sizeOf,typeInfo,bind,Sem.bind,program,lp];cases hi:P.info? t with
 | none=>rw [hi] at h;cases h
 | some i=>rw [hi] at h;simp at h;subst h;exact k
theorem FG{z:Value}{Q:Value→St→Prop}{X:Halt→St→Prop}(h:zeroOf P t=some z)(k:Q z s):lp P (zeroValue t) s Q X:=by
 unfold zeroOf at h;simp only [zeroValue,typeInfo,bind,Sem.bind,program,lp];cases hi:P.info? t with
 | none=>rw [hi] at h;cases h
 | some i=>
  rw [hi] at h;simp at h;show lp P (match i.zero with | some v=>pure v | none=>unsupported _) s Q X
  rw [h];exact k
theorem I9{c:Bool}{Q:Bool→St→Prop}{X:Halt→St→Prop}(h:CM P t=some c)(k:Q c s):lp P (isAgg t) s Q X:=by
 unfold CM at h;simp only [isAgg,underlying,bind,Sem.bind,program,lp];cases hu:P.underlying t with
 | none=>rw [hu] at h;cases h
 | some u=>
  rw [hu] at h;cases u <;> simp at h <;> subst h <;> exact k
theorem CY{u:TypeDesc}{Q:TypeDesc→St→Prop}{X:Halt→St→Prop}(h:P.underlying t=some u)(k:Q u s):lp P (underlying t) s Q X:=by
 simp only [underlying,bind,Sem.bind,program,lp,h];exact k
theorem Ov{a:Addr}{v:Value}{Q:Value→St→Prop}{X:Halt→St→Prop}(h:s.cell? a=some v)(k:Q v s):lp P (load a) s Q X:=⟨rfl,v,h,k⟩
theorem MV{a:Addr}{Q:Aw→St→Prop}{X:Halt→St→Prop}:∀(vs:Lv_) (i:Nat) (acc:Aw),(∀j v,vs[j]? =some v→s.cell? (a.add (i+j))=some v)→Q (acc++vs.toArray) s→lp P (loadCellsFrom a i vs.length acc) s Q X
 | [],i,acc,_,k=>by simpa [loadCellsFrom,lp,pure] using k
 | v::vs,i,acc,h,k=>by
  simp only [List.length_cons,loadCellsFrom]
  refine Ay _ _ (Ov (h 0 v rfl) ?_)
  refine MV vs (i+1) (acc.push v) (fun j u K=>?_) (by simpa using k)
  have:=h (j+1) u (by simpa using K)
  rwa [show i+1+j=i+(j+1) from by omega]
theorem M3{a:Addr}{vs:Lv_}{m:Nat}{Q:Aw→St→Prop}{X:Halt→St→Prop}(hm:m=vs.length)(h:∀j v,vs[j]? =some v→s.cell? (a.add j)=some v)(k:Q vs.toArray s):lp P (loadCells a m) s Q X:=by
 subst hm;exact MV vs 0 #[] (fun j v K=>by simpa using h j v K) (by simpa using k)
theorem QN{a:Addr}{v:Value}{Q:Value→St→Prop}{X:Halt→St→Prop}(ht:CM P t=some false)(h:s.cell? a=some v)(k:Q v s):lp P (loadVar t a) s Q X:=by
 unfold loadVar;refine Ay _ _ (I9 ht ?_);exact Ov h k
theorem M5{a:Addr}{vs:Lv_}{Q:Value→St→Prop}{X:Halt→St→Prop}(ht:CM P t=some true)(K:Br P t=some vs.length)(h:∀j v,vs[j]? =some v→s.cell? (a.add j)=some v)(k:Q (.agg vs.toArray) s):lp P (loadVar t a) s Q X:=by
 unfold loadVar;refine Ay _ _ (I9 ht ?_);show lp P (do let r ← loadCells a (← Go.sizeOf t);pure (Value.agg r)) s Q X
 refine Ay (x:=Go.sizeOf t) _ (En K ?_);refine Ay _ _ (M3 rfl h ?_);exact k
end
section
variable {P:Program}{ρ:Operand→Value}{s:St}{x y z:Operand}{d:Option Tmp}{t u ty e:TypeId}{p:String}{af:Ae_}{g:On_}{v:Value}{kd kd':IntKind}{m m':Int}
theorem El{o:Oper}{sm:Sem Value}(K:execOp ρ o=(do pure (Next.value (← sm))))(h:lp P sm s (fun r s'=>r=v∧s'=s) (fun _ _=>False)):Yl P o ρ s v:=by
 unfold Yl;rw [K];exact Ay _ _ (CO _ h (fun r s' ⟨O,U⟩=>⟨by rw [O],U⟩) (fun _ _ h=>h))
theorem Yl.load{a:Addr}(ht:CM P t=some false)(K:ρ x= .pointer (some a))(h:s.cell? a=some v):Yl P ⟨d,.load t x,ty,p,af,g⟩ ρ s v:=
 El (sm:=Instr.loadAt t (ρ x)) rfl (by rw [K];exact QN ht h ⟨rfl,rfl⟩)
theorem EZ{a:Addr}{vs:Lv_}(ht:CM P t=some true)(K:Br P t=some vs.length)(O:ρ x= .pointer (some a))(h:∀j v,vs[j]? =some v→s.cell? (a.add j)=some v):Yl P ⟨d,.load t x,ty,p,af,g⟩ ρ s (.agg vs.toArray):=
 El (sm:=Instr.loadAt t (ρ x)) rfl (by rw [O];exact M5 ht K h ⟨rfl,rfl⟩)
theorem Yl.fieldAddr{a:Addr}{O:Array Field}{i:Nat}{K:Field}{U:Nat}(ht:P.underlying t=some (.struct O))(hi:O[i]? =some K)(V:Br P K.type=some (U+1))(Y:ρ x= .pointer (some a)):
  Yl P ⟨d,.fieldAddr t x i,ty,p,af,g⟩ ρ s (.pointer (some (a.add K.offset))):=
 El (sm:=Instr.fieldAt t (ρ x) i) rfl (by
  rw [Y];unfold Instr.fieldAt
  refine Ay _ _ (CY ht ?_)
  simp only [hi,Instr.sureAddr,bind,Sem.bind,pure]
  refine Ay (x:=fieldPlace a K) _ ?_
  unfold fieldPlace
  refine Ay _ _ (En V ?_)
  simp only [Nat.add_eq_zero_iff,Nat.succ_ne_self,and_false,if_false,lp,pure]
  exact⟨trivial,trivial⟩)
theorem Kj{a:Addr}{l c K:Nat}(ht:P.underlying t=some (.slice e))(O:Br P e=some K)(U:ρ x= .slice (some a) l c)(V:ρ y= .int kd m)(h:0≤m∧m<l):
  Yl P ⟨d,.indexAddr t x y,ty,p,af,g⟩ ρ s (.pointer (some (a.add (m.toNat*K)))):=
 El (sm:=Instr.indexAt t (ρ x) (ρ y)) rfl (by
  rw [U,V];unfold Instr.indexAt
  simp only [asIntOf,bind,Sem.bind,pure]
  refine Ay (x:=underlying t) _ (CY ht ?_)
  simp only [Sem.bind]
  refine Ay (x:=underlying t) _ (CY ht ?_)
  simp only [Sem.bind,h,and_self,if_true]
  refine Ay (x:=Go.sizeOf e) _ (En O ?_)
  exact⟨rfl,rfl⟩)
theorem Ns{a:Addr}{l K:Nat}(ht:P.underlying t=some (.array l e))(O:Br P e=some K)(U:ρ x= .pointer (some a))(V:ρ y= .int kd m)(h:0≤m∧m<l):
  Yl P ⟨d,.indexAddr t x y,ty,p,af,g⟩ ρ s (.pointer (some (a.add (m.toNat*K)))):=
 El (sm:=Instr.indexAt t (ρ x) (ρ y)) rfl (by
  rw [U,V];unfold Instr.indexAt
  simp only [asIntOf,bind,Sem.bind,pure]
  refine Ay (x:=underlying t) _ (CY ht ?_)
  simp only [Sem.bind,Instr.sureAddr,pure]
  refine Ay (x:=underlying t) _ (CY ht ?_)
  simp only [Sem.bind,h,and_self,if_true]
  refine Ay (x:=Go.sizeOf e) _ (En O ?_)
  exact⟨rfl,rfl⟩)
end
section
variable {P:Program}{J:Judge P}{Q:Gs_}{b:Frame}{n:Nat}{L L':Env}{ds:Ld_}{k:Li_}{cs:Lf_}{E H:LH}{B B':List (Nat×Obj)}
variable {ops:Ao_}{i:Nat}{rest:List Nat}{d:Option Tmp}{x y:Operand}{t u ty e:TypeId}{p:String}{af:Ae_}{g:On_}{v:Value}
theorem GL{cells:Aw}{Q:Addr→St→Prop}{X:Halt→St→Prop}(K:Nd E H B)(k:∀r,Nd E H (B++ [(r,.cells cells e (0,0))])→Q ⟨r,0,none⟩ (mk E H (B++ [(r,.cells cells e (0,0))]))):lp P (newRow e cells) (mk E H B) Q X:=by
 simp only [newRow,newObj,bind,Sem.bind,lp,pure];refine⟨rfl,fun r O U=>?_⟩;obtain⟨V,Y⟩:=HG O U (.cells cells e (0,0)) K;rw [Y];exact k r V
theorem JL.alloc{z:Value}(K:ops[i]? =some ⟨d,.alloc e,ty,p,af,g⟩)(hw:A5 L ops ⟨d,.alloc e,ty,p,af,g⟩=some true)(O:Ct b n ⟨d,.alloc e,ty,p,af,g⟩=true)(U:Nd E H B)(V:zeroOf P e=some z)
  (h:∀r,Nd E H (B++ [(r,.cells z.cells e (0,0))])→JL J Q b n (Ax L d (.pointer (some ⟨r,0,none⟩))) ds (.inRegion ops rest::k) cs (mk E H (B++ [(r,.cells z.cells e (0,0))]))):
  JL J Q b n L ds (.inRegion ops (i::rest)::k) cs (mk E H B):=
 JL.op K hw O fun ρ _=>by
  show lp P (do pure (Next.value (← Instr.alloc e true (.tuple #[])))) _ _ _
  refine Ay _ _ ?_
  unfold Instr.alloc
  refine Ay _ _ (FG V ?_)
  refine Ay _ _ (GL U fun r Y=>?_)
  exact h r Y
theorem JL.box(K:ops[i]? =some ⟨d,.box e x,ty,p,af,g⟩)(hw:A5 L ops ⟨d,.box e x,ty,p,af,g⟩=some true)(O:Ct b n ⟨d,.box e x,ty,p,af,g⟩=true)(U:Nd E H B)(V:ev L x=some v)
  (h:∀r,Nd E H (B++ [(r,.cells v.cells e (0,0))])→JL J Q b n (Ax L d (.pointer (some ⟨r,0,none⟩))) ds (.inRegion ops rest::k) cs (mk E H (B++ [(r,.cells v.cells e (0,0))]))):
  JL J Q b n L ds (.inRegion ops (i::rest)::k) cs (mk E H B):=
 JL.op K hw O fun ρ Y=>by
  show lp P (do pure (Next.value (← Instr.box e (ρ x)))) _ _ _
  rw [Y x v V]
  refine Ay _ _ ?_
  unfold Instr.box
  refine Ay _ _ (GL U fun r Z=>?_)
  exact h r Z
def AI(c:Aw)(off:Nat):Lv_→Aw
 | []=>c
 | v::vs=>AI (c.setIfInBounds off v) (off+1) vs
theorem LM(c:Aw)(off:Nat)(vs:Lv_):(AI c off vs).size=c.size:=by
 induction vs generalizing c off with
 | nil=>rfl
 | cons v vs K=>simp [AI,K]
theorem LF{bk:Nat}{Q:Unit→St→Prop}{X:Halt→St→Prop}{pl off:Nat}{sp:Option Nat}:∀(vs:Lv_) (j:Nat) (c:Aw) (B:List (Nat×Obj)),(∀v∈vs,AL v=true)→Nd E H B→B[pl]? =some (bk,.cells c e (0,0))→off+j+vs.length≤c.size→(sp=none∨0<j)→
  (∀B',B'=B.set pl (bk,.cells (AI c (off+j) vs) e (0,0))→Nd E H B'→Q () (mk E H B'))→lp P (storeCells ⟨bk,off,sp⟩ vs j) (mk E H B) Q X
 | [],j,c,B,_,O,K,_,_,k=>by
  simp only [storeCells,lp,pure]
  refine k B ?_ O
  simp only [AI]
  exact(List.ext_getElem? fun i=>by
   by_cases hi:pl=i
   ·subst hi
    obtain⟨Y,Z⟩:=List.getElem?_eq_some_iff.1 K
    simp [Y,Z]
   ·simp [hi])
 | v::vs,j,c,B,U,O,K,hle,V,k=>by
  simp only [storeCells,List.length_cons] at*
  have aa:off+j<c.size:=by omega
  have ab:(Addr.add ⟨bk,off,sp⟩ j)=⟨bk,off+j,none⟩:=by
   unfold Addr.add;split
   ·rename_i ac;subst ac;rcases V with rfl | V
    ·rfl
    ·omega
   ·rfl
  have ae:(cellAt (.cells c e (0,0)) ⟨bk,off+j,none⟩).isSome=true:=by simp [cellAt,aa]
  refine Ay (x:=store (Addr.add ⟨bk,off,sp⟩ j) v) _ ?_;rw [ab];refine⟨rfl,U v (by simp),_,GO O K,ae,by simp [frozenAt],?_⟩;simp only [lp];have ag:HP (.cells c e (0,0)) ⟨bk,off+j,none⟩ v= .cells (c.setIfInBounds (off+j) v) e (0,0):=by simp [HP]
  rw [ag,Ug O K];have ah:(B.set pl (bk,.cells (c.setIfInBounds (off+j) v) e (0,0)))[pl]? =some (bk,.cells (c.setIfInBounds (off+j) v) e (0,0)):=by
   have:pl<B.length:=(List.getElem?_eq_some_iff.1 K).1;simp [this]
  refine LF vs (j+1) _ _ (fun u hu=>U u (List.mem_cons_of_mem _ hu)) (O.set K) ah (by simp;omega) (.inr (by omega)) fun ai e2 aj=>k ai ?_ aj;rw [e2,List.set_set];simp only [AI]
  rfl
theorem Kd{bk off pl:Nat}{c:Aw}{Q:Unit→St→Prop}{X:Halt→St→Prop}(K:Br P t=some v.cells.size)(O:∀u∈v.cells.toList,AL u=true)(U:Nd E H B)(V:B[pl]? =some (bk,.cells c e (0,0)))(hle:off+v.cells.size≤c.size)
  (k:Nd E H (B.set pl (bk,.cells (AI c off v.cells.toList) e (0,0)))→Q () (mk E H (B.set pl (bk,.cells (AI c off v.cells.toList) e (0,0))))):lp P (storeVar t ⟨bk,off,none⟩ v) (mk E H B) Q X:=by
 unfold storeVar;refine Ay _ _ (En K ?_);simp only [ne_eq,not_true_eq_false,if_false];refine LF v.cells.toList 0 c B O U V (by simpa using hle) (.inl rfl) fun B' e Y=>?_;subst e;exact k Y
theorem JL.store{bk off:Nat}{c:Aw}(pl:Nat)(O:ops[i]? =some ⟨d,.store t x y,ty,p,af,g⟩)(hw:A5 L ops ⟨d,.store t x y,ty,p,af,g⟩=some true)(U:Ct b n ⟨d,.store t x y,ty,p,af,g⟩=true)(V:Nd E H B)
  (Y:ev L x=some (.pointer (some ⟨bk,off,none⟩))) (Z:ev L y=some v) (aa:Br P t=some v.cells.size) (ab:∀u∈v.cells.toList,AL u=true) (ac:B[pl]? =some (bk,.cells c e (0,0))) (hle:off+v.cells.size≤c.size)
  (h:Nd E H (B.set pl (bk,.cells (AI c off v.cells.toList) e (0,0)))→JL J Q b n (Ax L d undef) ds (.inRegion ops rest::k) cs (mk E H (B.set pl (bk,.cells (AI c off v.cells.toList) e (0,0))))):
  JL J Q b n L ds (.inRegion ops (i::rest)::k) cs (mk E H B):=
 JL.op O hw U fun ρ K=>by
  show lp P (do Instr.storeAt t (ρ x) (ρ y);pure Next.skip) _ _ _
  rw [K x _ Y,K y _ Z]
  refine Ay _ _ ?_
  unfold Instr.storeAt
  simp only [Instr.sureAddr,bind,Sem.bind,pure]
  exact Kd aa ab V ac hle fun ae=>h ae
end
end Pal
namespace Pal
open Go Go.Conc
def D6(P:Program)(t:TypeId):Option Nat:=(P.info? t).map (·.bytes)
section
variable {P:Program}{J:Judge P}{Q:Gs_}{b:Frame}{n:Nat}{L L':Env}{ds:Ld_}{k:Li_}{cs:Lf_}{E H:LH}{B B':List (Nat×Obj)}{s:St}
variable {ops:Ao_}{i:Nat}{rest:List Nat}{d:Option Tmp}{x y:Operand}{t u ty e:TypeId}{p:String}{af:Ae_}{g:On_}{v:Value}
theorem HA{inf:TypeInfo}{Q:TypeInfo→St→Prop}{X:Halt→St→Prop}(h:P.info? t=some inf)(k:Q inf s):lp P (typeInfo t) s Q X:=by
 simp only [typeInfo,bind,Sem.bind,program,lp,h];exact k
theorem LQ{K:Nat}(h:D6 P t=some K):∃inf,P.info? t=some inf∧inf.bytes=K:=by
 unfold D6 at h;cases hi:P.info? t with
 | none=>rw [hi] at h;cases h
 | some i=>rw [hi] at h;simp at h;exact⟨i,rfl,h⟩
theorem GN{β:Type}{z y:Nat}{code:BoundsCode}{f:Nat→Sem β}{K:β→St→Prop}{X:Halt→St→Prop}(V:z≤y)(O:lp P (f z) s K X):lp P (Instr.sliceBound (.int .i64 z) y code>>=f) s K X:=by
 refine Ay _ _ ?_;unfold Instr.sliceBound;have U:(0:Int)≤(z:Int)∧(z:Int)≤(y:Int):=⟨by omega,by omega⟩;simp only [asIntOf,bind,Sem.bind,pure];rw [if_pos U];simpa [lp] using O
theorem GI{α β:Type}(a:α)(f:α→Sem β):((pure a:Sem α)>>=f)=f a:=rfl
theorem UT{l c:Nat}{X:Halt→St→Prop}:lp P (Instr.sliceBounds true l c none none none) s (fun r s'=>r=(0,l,c)∧s'=s) X:=by
 unfold Instr.sliceBounds;exact⟨rfl,rfl⟩
theorem UM{l c:Nat}{lo:Nat}(K:lo≤l){X:Halt→St→Prop}:lp P (Instr.sliceBounds true l c (some (.int .i64 lo)) none none) s (fun r s'=>r=(lo,l,c)∧s'=s) X:=by
 simp only [Instr.sliceBounds,if_true,Option.isSome_none,Option.isSome_some,Bool.false_eq_true,if_false,GI];exact GN K ⟨rfl,rfl⟩
theorem UU{l c:Nat}{hi:Nat}(hh:hi≤c){X:Halt→St→Prop}:lp P (Instr.sliceBounds true l c none (some (.int .i64 hi)) none) s (fun r s'=>r=(0,hi,c)∧s'=s) X:=by
 simp only [Instr.sliceBounds,if_true,Option.isSome_none,Option.isSome_some,Bool.false_eq_true,if_false,GI];exact GN hh ⟨rfl,rfl⟩
theorem UX{l c:Nat}{lo hi:Nat}(hh:hi≤c)(K:lo≤hi){X:Halt→St→Prop}:lp P (Instr.sliceBounds true l c (some (.int .i64 lo)) (some (.int .i64 hi)) none) s (fun r s'=>r=(lo,hi,c)∧s'=s) X:=by
 have e:Instr.sliceBounds true l c (some (.int .i64 lo)) (some (.int .i64 hi)) none=(Instr.sliceBound (.int .i64 hi) c .sliceAcap>>=fun h=>Instr.sliceBound (.int .i64 lo) h .sliceB>>=fun l=>pure (l,h,c)):=by
  simp [Instr.sliceBounds]
 rw [e];exact GN hh (GN K ⟨rfl,rfl⟩)
theorem UJ{l c:Nat}{hi mx:Nat}(hm:mx≤c)(hh:hi≤mx){X:Halt→St→Prop}:lp P (Instr.sliceBounds true l c none (some (.int .i64 hi)) (some (.int .i64 mx))) s (fun r s'=>r=(0,hi,mx)∧s'=s) X:=by
 simp only [Instr.sliceBounds,if_true,Option.isSome_none,Option.isSome_some,Bool.false_eq_true,if_false,GI];exact GN hm (GN hh ⟨rfl,rfl⟩)
theorem UL{l c:Nat}{lo hi mx:Nat}(hm:mx≤c)(hh:hi≤mx)(K:lo≤hi){X:Halt→St→Prop}:lp P (Instr.sliceBounds true l c (some (.int .i64 lo)) (some (.int .i64 hi)) (some (.int .i64 mx))) s (fun r s'=>r=(lo,hi,mx)∧s'=s) X:=by
 simp only [Instr.sliceBounds,if_true,Option.isSome_none,Option.isSome_some,Bool.false_eq_true,if_false,GI];exact GN hm (GN hh (GN K ⟨rfl,rfl⟩))
theorem Rb{l c lo hi mx:Nat}{V Y Z:Option Value}{X:Halt→St→Prop}
  (O:match Z with | some w=>w= .int .i64 mx | none=>mx=c) (K:match Y with | some w=>w= .int .i64 hi | none=>hi=l∧Z=none) (U:match V with | some w=>w= .int .i64 lo | none=>lo=0) (hm:mx≤c) (hh:hi≤mx) (aa:lo≤hi):
  lp P (Instr.sliceBounds true l c V Y Z) s (fun r s'=>r=(lo,hi,mx)∧s'=s) X:=by
 cases Z with
 | none=>
  cases Y with
  | none=>
   cases V with
   | none=>obtain rfl:mx=c:=O;obtain rfl:hi=l:=K.1;obtain rfl:lo=0:=U;exact UT
   | some w=>obtain rfl:mx=c:=O;obtain rfl:hi=l:=K.1;obtain rfl:w= .int .i64 lo:=U;exact UM aa
  | some w=>
   cases V with
   | none=>obtain rfl:mx=c:=O;obtain rfl:w= .int .i64 hi:=K;obtain rfl:lo=0:=U;exact UU hh
   | some w'=>obtain rfl:mx=c:=O;obtain rfl:w= .int .i64 hi:=K;obtain rfl:w'= .int .i64 lo:=U;exact UX hh aa
 | some w0=>
  cases Y with
  | none=>exact absurd K.2 (fun h=>by cases h)
  | some w=>
   cases V with
   | none=>obtain rfl:w0= .int .i64 mx:=O;obtain rfl:w= .int .i64 hi:=K;obtain rfl:lo=0:=U;exact UJ hm hh
   | some w'=>obtain rfl:w0= .int .i64 mx:=O;obtain rfl:w= .int .i64 hi:=K;obtain rfl:w'= .int .i64 lo:=U;exact UL hm hh aa
theorem SG{a:Option Addr}{l c O lo hi mx:Nat}{U V K:Option Value}{Q:Value→St→Prop}{X:Halt→St→Prop}(ht:P.underlying t=some (.slice e))(Y:Br P e=some O)
  (Z:match K with | some w=>w= .int .i64 mx | none=>mx=c) (aa:match V with | some w=>w= .int .i64 hi | none=>hi=l∧K=none) (ab:match U with | some w=>w= .int .i64 lo | none=>lo=0) (hm:mx≤c) (hh:hi≤mx) (ac:lo≤hi)
  (k:Q (.slice (if mx=lo then a else a.map (·.add (lo*O))) (hi - lo) (mx - lo)) s):lp P (Instr.slice t (.slice a l c) U V K) s Q X:=by
 unfold Instr.slice;refine Ay _ _ (CY ht ?_);have hb:=Rb (P:=P) (s:=s) (X:=X) Z aa ab hm hh ac;refine Ay _ _ (CO _ hb ?_ (fun _ _ h=>h));rintro r s' ⟨rfl,rfl⟩;exact Ay _ _ (En Y k)
theorem Yl.slice{ρ:Operand→Value}{a:Option Addr}{l c O lo hi mx:Nat}{olo ohi omx:Option Operand}(ht:P.underlying t=some (.slice e))(U:Br P e=some O)(V:ρ x= .slice a l c)
  (Y:match omx with | some w=>ρ w= .int .i64 mx | none=>mx=c) (K:match ohi with | some w=>ρ w= .int .i64 hi | none=>hi=l∧omx=none) (Z:match olo with | some w=>ρ w= .int .i64 lo | none=>lo=0) (hm:mx≤c) (hh:hi≤mx) (aa:lo≤hi):
  Yl P ⟨d,.slice t x olo ohi omx,ty,p,af,g⟩ ρ s (.slice (if mx=lo then a else a.map (·.add (lo*O))) (hi - lo) (mx - lo)):=
 El (sm:=Instr.sliceAt t (ρ x) (olo.map ρ) (ohi.map ρ) (omx.map ρ)) rfl (by
  rw [V];unfold Instr.sliceAt
  refine Ay _ _ (CY ht ?_)
  refine SG ht U (mx:=mx) (hi:=hi) (lo:=lo) ?_ ?_ ?_ hm hh aa ⟨rfl,rfl⟩
  ·cases omx <;> exact Y
  ·cases ohi with
   | none=>exact⟨K.1,by rw [K.2];rfl⟩
   | some w=>exact K
  ·cases olo <;> exact Z)
def FP(s:St)(v:Value)(K:Nat)(xs:Lv_):Prop:=
 match v with
 | .slice (some a) l c=>(a.spot=none∨l=0)∧xs.length=l*K∧l≤c∧∀j w,xs[j]? =some w→s.cell? ⟨a.block,a.off+j,none⟩=some w
 | .slice none l _=>l=0∧xs= []
 | _=>False
theorem Dq{a:Addr}(h:a.spot=none)(j:Nat):a.add j=⟨a.block,a.off+j,none⟩:=by
 unfold Addr.add;obtain⟨b,o,sp⟩:=a;simp only at h;subst h;split
 ·rename_i e;subst e;rfl
 ·rfl
theorem H0{V l:Nat}{xs:Lv_}{Q:Aw→St→Prop}{X:Halt→St→Prop}(Y:∃a c,v= .slice a l c)(h:FP s v V xs)(k:Q xs.toArray s):lp P (Builtin.firstCells V l v) s Q X:=by
 obtain⟨a,c,rfl⟩:=Y;cases a with
 | none=>
  obtain⟨K,rfl⟩:=h;exact k
 | some a=>
  obtain⟨K,O,aa,Z⟩:=h;refine M3 O.symm (fun j w U=>?_) k;rcases K with K | K
  ·rw [Dq K];exact Z j w U
  ·rw [K,Nat.zero_mul] at O;rw [List.eq_nil_of_length_eq_zero O] at U;cases U
theorem RD(nl:Nat):∀(r c:Nat),Builtin.growBy nl r c≤max c (2*nl+768):=by
 intro r
 induction r with
 | zero=>intro c;simp [Builtin.growBy];omega
 | succ r K=>
  intro c;simp only [Builtin.growBy];split
  ·omega
  ·rename_i h;have:=K (c+(c+768) / 4);omega
theorem Ni{need old:Nat}(h:old<need):Builtin.nextslicecap need old≤2*need+768:=by
 unfold Builtin.nextslicecap;split
 ·omega
 ·split
  ·omega
  ·have:=RD need 4 old;omega
theorem MU(z:Aw)(m:Nat):(Builtin.zeroCells z m).size=m*z.size:=by simp [Builtin.zeroCells]
def K9(B:List (Nat×Obj))(pl:Nat)(e:TypeId)(K:Nat)(a:Option Addr)(l c:Nat)(xs:Lv_):Prop:=
 (a=none∧l=0∧c=0∧xs= [])∨∃bk f,a=some ⟨bk,0,none⟩∧B[pl]? =some (bk,.cells f e (0,0))∧f.size=c*K∧l≤c∧xs=f.toList.take (l*K)
theorem MY(c:Aw)(off:Nat)(vs:Lv_)(h:off+vs.length≤c.size):(AI c off vs).toList.take (off+vs.length)=c.toList.take off++vs:=by
 induction vs generalizing c off with
 | nil=>simp [AI]
 | cons v vs O=>
  simp only [AI,List.length_cons] at*;have:=O (c.setIfInBounds off v) (off+1) (by simp;omega);rw [show off+(vs.length+1)=off+1+vs.length from by omega,this];have K:off<c.toList.length:=by simp;omega
  rw [Array.toList_setIfInBounds,List.take_add_one];have U:(c.toList.set off v)[off]? =some v:=by simp at K;simp [K]
  rw [U];simp [List.take_set_of_le]
theorem LR{ats:Array TypeId}{a:Option Addr}{l c K V m cx:Nat}{ax:Option Addr}{xs ys:Lv_}{z:Value}{Q:Value→St→Prop}{X:Halt→St→Prop}{pl:Nat}
  (ar:ats[0]? =some t) {t1 au:TypeId} (av:ats[1]? =some t1) (aw:P.underlying t1=some (.slice au)) (ht:P.underlying t=some (.slice e)) (ay:Br P e=some K) (hb:D6 P e=some V) (az:zeroOf P e=some z) (aA:z.cells.size=K)
  (ag:Nd E H B) (hs:K9 B pl e K a l c xs)
  (ac:FP (mk E H B) (.slice ax m cx) K ys) (aB:∀w∈ys,AL w=true) (aM:0<V) (aN:l+m≤2 ^ 40) (aC:V≤64)
  (aD:∀bk f O,a=some ⟨bk,0,none⟩→B[pl]? =some (bk,.cells f e (0,0))→O=AI f (l*K) ys→l+m≤c→O.size=c*K→O.toList.take ((l+m)*K)=xs++ys→Nd E H (B.set pl (bk,.cells O e (0,0)))→Q (.slice a (l+m) c) (mk E H (B.set pl (bk,.cells O e (0,0)))))
  (aE:a=none→m=0→Q (.slice none 0 0) (mk E H B))
  (aF:∀r O Y,l+m≤Y→O.size=Y*K→O.toList.take ((l+m)*K)=xs++ys→Nd E H (B++ [(r,.cells O e (0,0))])→Q (.slice (some ⟨r,0,none⟩) (l+m) Y) (mk E H (B++ [(r,.cells O e (0,0))]))):
  lp P (Builtin.append_ ats ty #[.slice a l c,.slice ax m cx]) (mk E H B) Q X:=by
 unfold Builtin.append_;simp only [ar,av,List.getElem?_toArray,List.getElem?_cons_zero,List.getElem?_cons_succ];refine Ay _ _ (CY ht ?_);refine Ay _ _ (En ay ?_);refine Ay _ _ (CY aw ?_);simp only [GI,Bool.false_eq_true,if_false,Builtin.lenOf,Bool.not_false,if_true];have Z:ys.length=m*K:=by
  cases ax with
  | none=>obtain⟨ah,ai⟩:=ac;subst ah ai;simp
  | some ad=>exact ac.2.1
 have aj:∃(aG:Option Addr) (Y:Nat),FP (mk E H B) (.slice a l c) K xs∧aG=a∧Y=c:=by
  refine⟨a,c,?_,rfl,rfl⟩;rcases hs with⟨rfl,rfl,rfl,rfl⟩ | ⟨bk,f,rfl,aa,U,ab,rfl⟩
  ·exact⟨rfl,rfl⟩
  ·have hle:l*K≤f.size:=by rw [U];exact Nat.mul_le_mul_right _ ab
   refine⟨.inl rfl,by simp [Nat.min_eq_left hle],ab,fun j w ae=>?_⟩;refine NL ag aa ?_;simp only [Nat.zero_add];rw [List.getElem?_take] at ae;split at ae
   ·simpa using ae
   ·cases ae
 obtain⟨_,_,aj,_,_⟩:=aj;have ak:xs.length=l*K:=by
  rcases hs with⟨rfl,rfl,rfl,rfl⟩ | ⟨bk,f,rfl,aa,U,ab,rfl⟩
  ·simp
  ·have hle:l*K≤f.size:=by rw [U];exact Nat.mul_le_mul_right _ ab
   simp [Nat.min_eq_left hle]
 split
 ·rename_i ap;refine Ay _ _ (H0 ⟨ax,cx,rfl⟩ ac ?_);rcases hs with⟨rfl,rfl,rfl,rfl⟩ | ⟨bk,f,rfl,aa,U,ab,rfl⟩
  ·obtain rfl:m=0:=by omega
   simp only;exact aE rfl rfl
  ·simp only;have hle:l*K+ys.length≤f.size:=by rw [Z,U,← Nat.add_mul];exact Nat.mul_le_mul_right _ ap
   have aH:(Addr.add ⟨bk,0,none⟩ (l*K))=⟨bk,l*K,none⟩:=by rw [Dq rfl];simp
   rw [aH];refine Ay _ _ (LF (pl:=pl) ys.toArray.toList 0 f B (by simpa using aB) ag aa (by simpa using hle) (.inl rfl) fun B' aq al=>?_);simp only [Nat.add_zero] at aq;subst aq;refine aD bk f _ rfl aa rfl ap (by rw [LM,U]) ?_ al;have:=MY f (l*K) ys hle;rw [Z,← Nat.add_mul] at this;exact this
 ·rename_i aO;have ah:¬(((l+m:Nat):Int)>IntKind.i64.max∧(False∨V=0)):=by rintro⟨_,h | h⟩ <;> omega
  have ai:¬(Builtin.nextslicecap (l+m) c*V>2 ^ 48):=by
   have:=Ni (need:=l+m) (old:=c) (by omega);have aP:Builtin.nextslicecap (l+m) c*V≤(2*(l+m)+768)*64:=Nat.mul_le_mul this aC;omega
  obtain⟨inf,am,an⟩:=LQ hb;refine Ay _ _ (HA am ?_);rw [an,if_neg ah];refine Ay _ _ (HA am ?_);rw [an,if_neg ai];refine Ay _ _ ?_;simp only [choose,lp,Question.forced,Bool.false_eq_true,if_false];refine⟨rfl,fun aI=>?_⟩;generalize aJ:(Question.appendCap (l+m) c e).cut aI=ao;have aK:l+m≤ao:=by rw [← aJ];simp [Question.cut]
  refine Ay _ _ (HA am ?_);rw [an];have aL:∀{α:Type} {f:Unit→Sem α} {Q:α→St→Prop},lp P (f ()) (mk E H B) Q X→lp P (askRoom (ao*V)>>=f) (mk E H B) Q X:=by
   intro α f Q U;refine Ay _ _ ?_;unfold askRoom;split
   ·exact⟨.inl ⟨rfl,rfl⟩,U⟩
   ·exact U
  refine aL (Ay _ _ (H0 ⟨a,c,rfl⟩ aj ?_));refine Ay _ _ (H0 ⟨ax,cx,rfl⟩ ac ?_);refine Ay _ _ (FG az ?_);refine Ay _ _ (GL ag fun r al=>?_);refine aF r _ ao aK ?_ ?_ al
  ·simp only [Array.size_append,List.size_toArray,MU,aA,ak,Z];rw [← Nat.add_mul,← Nat.add_mul];congr 1;omega
  ·simp only [Array.toList_append];rw [List.take_append_of_le_length (by simp [ak,Z,Nat.add_mul])];rw [List.take_of_length_le (by simp [ak,Z,Nat.add_mul])]
end
end Pal
namespace Pal
open Go Go.Conc
theorem Lo{P:Program}{α:Type}(x:Sem α):∀{s:St} {Q:α→St→Prop} {X:Halt→St→Prop},lp P x s Q X→lp P x s (fun a s'=>Q a s'∧s'.E=s.E∧s'.q=s.q) X:=by
 induction x with
 | pure a=>intro s Q X h;exact⟨h,rfl,rfl⟩
 | load m a k K=>intro s Q X h;obtain⟨O,v,U,V⟩:=h;exact⟨O,v,U,K _ V⟩
 | store m a v k K=>intro s Q X h;obtain⟨O,U,o,V,Z,aa,ab⟩:=h;exact⟨O,U,o,V,Z,aa,K ab⟩
 | new o k K=>intro s Q X h;exact⟨h.1,fun r O U=>K _ (h.2 r O U)⟩
 | shape r k K=>intro s Q X h;obtain⟨o,O,U⟩:=h;exact⟨o,O,K _ U⟩
 | freeze a n k K=>intro s Q X h;exact h
 | frozen a k K=>intro s Q X h;obtain⟨o,O,U⟩:=h;exact⟨o,O,K _ U⟩
 | getObj r k K=>intro s Q X h;obtain⟨o,O,U,V⟩:=h;exact⟨o,O,U,K _ V⟩
 | setObj r o k K=>intro s Q X h;obtain⟨O,U,V⟩:=h;exact⟨O,U,K V⟩
 | choose q k K=>
  intro s Q X h;simp only [lp] at h ⊢;split
  ·rename_i Y;rw [if_pos Y] at h;exact K _ h
  ·rename_i Y;rw [if_neg Y] at h;exact⟨h.1,fun t=>K _ (h.2 t)⟩
 | sys c k K=>intro s Q X h;exact h
 | program k K=>intro s Q X h;exact K _ h
 | mark m k K=>intro s Q X h;exact⟨h.1,K h.2⟩
 | halt h=>intro s Q X h;exact h
def Bu(D:Nat→Bool)(s:St):St:=⟨fun b=>if D b then s.get b else s.E b,fun b=>if D b then none else s.H b,s.q⟩
def Cp(D:Nat→Bool)(s s':St):St:=⟨fun b=>if D b then s.E b else s'.E b,fun b=>if D b then s.H b else s'.H b,s'.q⟩
theorem I3(D:Nat→Bool)(s:St):Cp D s (Bu D s)=s:=by
 obtain⟨E,H,q⟩:=s;unfold Cp Bu;congr 1
 ·funext b;by_cases h:D b <;> simp [h]
 ·funext b;by_cases h:D b <;> simp [h]
theorem Sd{D:Nat→Bool}{s:St}{w:World}(f:Fits s w):Fits (Bu D s) w where
 e b o h:=by
  by_cases K:D b
  ·simp [Bu,K] at h;exact f.get h
  ·simp [Bu,K] at h;exact f.e b o h
 h b o h:=by
  by_cases K:D b
  ·simp [Bu,K] at h
  ·simp [Bu,K] at h;exact f.h b o h
 d b h:=by
  by_cases K:D b
  ·simp [Bu,K]
  ·simp [Bu,K] at h ⊢;exact f.d b h
def Dt{P:Program}(J:Judge P)(f:FuncId)(args:Aw)(s:St)(R:Value→St→Prop):Prop:=
 ∀(Q:Gs_) (c:Frame) (cs:Lf_),(∀v s',R v s'→J.ok Q (G (c.finish v) cs) s')→J.ok Q (G (Frame.enter P f args .normal) (c::cs)) s
theorem Dt.Ad{P:Program}{J:Judge P}{f:FuncId}{args:Aw}{s:St}{R K:Value→St→Prop}(h:Dt J f args s R)(O:∀v s',R v s'→K v s'):Dt J f args s K:=
 fun Q c cs U=>h Q c cs fun v s' V=>U v s' (O v s' V)
section
variable {P:Program}{J:Judge P}{Q:Gs_}{b:Frame}{n:Nat}{L L':Env}{ds:Ld_}{k:Li_}{cs:Lf_}{s s':St}
theorem Judge.O4(D:Nat→Bool){T:Aw}{ops:Ao_}{i:Nat}{rest:List Nat}{o:Oper}(V:ops[i]? =some o)(hw:Region.wanted o (yielded ops T)=true)(ar:b.kind≠ .early)
  (au:∀c,o.op≠ .defer c) (av:s.q=false)
  (h:lp P (execOp (BB T) o) (Bu D s) (fun ae s'=>upon J Q b T ds ops i rest k cs o.dst ae (Cp D s s')) (fun _ _=>False)):
  J.ok Q (G (fr b T ds (.inRegion ops (i::rest)::k)) cs) s:=by
 refine J.step ⟨rfl,fun w f=>?_,fun e=>by subst e;cases av⟩;have Y:((fr b T ds (.inRegion ops (i::rest)::k)).kind==CallKind.early)=false:=by simpa [fr] using ar
 have aw:stepG P J.main (G (fr b T ds (.inRegion ops (i::rest)::k)) cs) w=stepG.apply P true (fr b T ds (.inRegion ops (i::rest)::k)) cs none (execOp (BB T) o) w:=by
  rw [stepG_op V hw];split
  ·rename_i l c aE e2;exact absurd e2 (au c)
  ·rfl
 obtain⟨Z,ag,ah,ay,O⟩:=Kl _ (Lo _ h) (Sd (D:=D) f);have ai:=Md (P:=P) (fn:=b.fn) ay;have am:=fun v=>Fp (b:=b) (ds:=ds) (k:=k) T ops i rest v o V;have key:∀w',Fits Z w'→Fr (Bu D s) w Z w'→Z.E=(Bu D s).E→Fits (Cp D s Z) w'∧Fr s w (Cp D s Z) w':=by
  intro w' aj g2 az;have an:∀b,D b=true→b<w.heap.size→w'.heap[b]? =w.heap[b]? :=fun b hb ak=>g2.keep b ak (by simp [Bu,hb]);have ao:∀b o,(s.H b=some o∨s.E b=some o)→b<w.heap.size:=fun b o V=>by
   have:=V.elim (f.h b o) (f.e b o);rcases Nat.lt_or_ge b w.heap.size with al | al
   ·exact al
   ·simp [Array.getElem?_eq_none al] at this
  refine⟨⟨fun b o hb=>?_,fun b o hb=>?_,fun b hb=>?_⟩,⟨g2.size,fun b ak hb=>?_,fun b hb=>?_,fun b o hb=>?_,fun b hb=>?_,g2.tape,g2.os,g2.output⟩⟩
  ·by_cases K:D b
   ·simp [Cp,K] at hb;rw [an b K (ao b o (.inr hb))];exact f.e b o hb
   ·simp [Cp,K] at hb;exact aj.e b o hb
  ·by_cases K:D b
   ·simp [Cp,K] at hb;rw [an b K (ao b o (.inl hb))];exact f.h b o hb
   ·simp [Cp,K] at hb;exact aj.h b o hb
  ·by_cases K:D b
   ·simp [Cp,K] at hb ⊢;exact f.d b hb
   ·simp [Cp,K] at hb ⊢;exact aj.d b hb
  ·exact g2.keep b ak (by by_cases K:D b <;> simp [Bu,K,hb])
  ·by_cases K:D b
   ·simp [Cp,K] at hb;exact .inl hb
   ·simp [Cp,K] at hb;rcases g2.own b hb with q | q
    ·left;simpa [Bu,K] using q
    ·exact .inr q
  ·by_cases K:D b
   ·simp [Cp,K];exact hb
   ·simp only [Cp,K,Bool.false_eq_true,if_false];rw [az];simp [Bu,K,hb]
  ·by_cases K:D b
   ·simp [Cp,K] at hb;exact .inl hb
   ·simp [Cp,K] at hb;rcases g2.Ds b hb with q | q | q
    ·left;simpa [Bu,K] using q
    ·right;left;simpa [Bu,K] using q
    ·exact .inr (.inr q)
 have aA:∀w',(∀e∈seen P b.fn ((execOp (BB T) o).events P w #[]),Ev (Bu D s) w w' e)→∀e∈seen P b.fn ((execOp (BB T) o).events P w #[]),Ev s w w' e:=by
  intro w' he e hm;have:=he e hm;have ap:∀{b wr},Fa (Bu D s) w w' b wr→Fa s w w' b wr:=by
   intro b wr ht;refine⟨ht.1,?_⟩;rcases ht.2 with q | q | ⟨q,aq⟩
   ·left;by_cases K:D b <;> simp [Bu,K] at q;exact q
   ·exact .inr (.inl q)
   ·by_cases K:D b
    ·simp [Bu,K,St.get] at q;by_cases ac:s.E b=none
     ·left;intro aB;rw [ac,aB] at q;exact q rfl
     ·exact .inr (.inr ⟨ac,aq⟩)
    ·simp [Bu,K] at q;exact .inr (.inr ⟨q,aq⟩)
  unfold Ev at this ⊢;split <;> rename_i aC <;> simp only [aC] at this
  ·exact⟨this.1,ap this.2⟩
  ·exact⟨this.1,ap this.2⟩
  ·trivial
  ·trivial
 rw [aw];cases U:(execOp (BB T) o).run P w with
 | ok ae w'=>
  rw [U] at ag ah O ai;simp only [HS] at ag ah ai;obtain⟨O,ac,_⟩:=O;obtain⟨k1,aa⟩:=key w' ag ah ac;have ab:=aA w' ai;cases ae with
  | value v=>exact⟨_,_,w',seen P b.fn ((execOp (BB T) o).events P w #[])++ #[],by simp [stepG.apply,U,Y,GStep.after,G,am,Eh],O,k1,aa,by simpa using ab⟩
  | skip=>exact⟨_,_,w',seen P b.fn ((execOp (BB T) o).events P w #[])++ #[],by simp [stepG.apply,U,Y,GStep.after,G,am,Eh],O,k1,aa,by simpa using ab⟩
  | enter g args=>exact⟨_,_,w',seen P b.fn ((execOp (BB T) o).events P w #[])++ #[],by simp [stepG.apply,U,Y,GStep.after,G,Eh,F6],O,k1,aa,by simpa using ab⟩
  | round l g aF as aG=>exact⟨_,_,w',seen P b.fn ((execOp (BB T) o).events P w #[])++ #[],by simp [stepG.apply,U,Y,GStep.after,G,Eh,F6],O,k1,aa,by simpa using ab⟩
  | defer d=>
   have aD:=Fp (b:=b) (ds:=d::ds) (k:=k) T ops i rest undef o V;exact⟨_,_,w',seen P b.fn ((execOp (BB T) o).events P w #[])++ #[],by
    rw [← aD];simp [stepG.apply,U,Y,GStep.after,G,Eh,F6];rfl,O,k1,aa,by simpa using ab⟩
  | _=>exact O.elim
 | halt x w'=>rw [U] at O;exact O.elim
end
end Pal
namespace Pal
open Go Go.Conc
def MA(m:Nat)(listed:Array Bool):Bool:=(List.range m).all fun i=>listed.getD i false
def A4(listed:Array Bool)(i:Nat):Array Bool:=listed.setIfInBounds i true
section
variable {P:Program}(J:Judge P)(Q:Gs_)(b:Frame)(ds:Ld_)(ops:Ao_)(k:Li_)(cs:Lf_)(m:Nat)(D:Nat→Bool)
def JA:Nat→Array Bool→Aw→St→Prop
 | 0,listed,T,s=>Region.ready .any ops listed= []∧J.ok Q (G (fr b T ds (.inRegion ops []::k)) cs) s
 | fuel+1,listed,T,s=>
  (MA m listed=true∧∀t,J.ok Q (G (fr b T ds (.inRegion ops (Region.linearise.go .any ops (fuel+1) t listed [])::k)) cs) s)∨
  (Region.ready .any ops listed≠ []∧s.q=false∧∀i∈Region.ready .any ops listed,∀o,ops[i]? =some o→(∀c,o.op≠ .defer c)∧
   (Region.wanted o (yielded ops T)=false→JA fuel (A4 listed i) (Cr T o.dst undef) s)∧
   (Region.wanted o (yielded ops T)=true→lp P (execOp (BB T) o) (Bu D s) (fun O s'=>match O with
    | .value v=>JA fuel (A4 listed i) (Cr T o.dst v) (Cp D s s')
    | .skip=>JA fuel (A4 listed i) (Cr T o.dst undef) (Cp D s s')
    | .enter f args=>∃R,Dt J f args (Cp D s s') R∧∀v K,R v K→K.q=false∧(∀x o,(Bu D s).E x=some o→(Bu D K).E x=some o)∧JA fuel (A4 listed i) (Cr T o.dst v) K
    | _=>False) (fun _ _=>False)))
variable {J Q b ds ops k cs m D}
theorem R4(Y:b.kind≠ .early):∀(fuel t:Nat) (listed:Array Bool) (T:Aw) (s:St),JA J Q b ds ops k cs m D fuel listed T s→
  J.ok Q (G (fr b T ds (.inRegion ops (Region.linearise.go .any ops fuel t listed [])::k)) cs) s:=by
 intro fuel
 induction fuel with
 | zero=>intro t listed T s h;simpa [Region.linearise.go] using h.2
 | succ fuel K=>
  intro t listed T s h;rcases h with⟨_,h⟩ | ⟨Z,aa,h⟩
  ·exact h t
  ·obtain⟨i,hi⟩:∃i,(Region.ready .any ops listed)[t % (Region.ready .any ops listed).length]? =some i:=by
    have:0<(Region.ready .any ops listed).length:=List.length_pos_iff.2 Z;exact⟨_,List.getElem?_eq_getElem (Nat.mod_lt _ this)⟩
   have V:=List.mem_of_getElem? hi;have hgo:Region.linearise.go .any ops (fuel+1) t listed []=i::Region.linearise.go .any ops fuel (t / (Region.ready .any ops listed).length) (A4 listed i) []:=by
    simp only [Region.linearise.go];change (match(Region.ready .any ops listed)[t % (Region.ready .any ops listed).length]? with
     | some i=>Region.linearise.go .any ops fuel (t / (Region.ready .any ops listed).length) (listed.setIfInBounds i true) [i]
     | none=> [].reverse)=_
    rw [hi];simp only;rw [linearise_go_acc];rfl
   rw [hgo];obtain⟨_,o,O,_⟩:=mem_ready.1 V;obtain⟨ab,ac,ae⟩:=h i V o O;cases hw:Region.wanted o (yielded ops T) with
   | false=>exact Judge.unwanted O hw (K _ _ _ _ (ac hw))
   | true=>
    refine Judge.O4 D O hw Y ab aa (CO _ (ae hw) ?_ (fun _ _ h=>h));intro ag s' U;cases ag with
    | value v=>exact K _ _ _ _ U
    | skip=>exact K _ _ _ _ U
    | enter f args=>
     obtain⟨R,ah,ai⟩:=U;refine ah Q _ cs fun v aj ak=>?_;rw [Fp _ _ _ _ _ _ O];exact K _ _ _ _ (ai v aj ak).2.2
    | _=>exact U.elim
theorem Ta{T:Aw}{d:Option Tmp}{v:Value}{x:Operand}(h:∀t,d=some t→x≠ .tmp t):BB (Cr T d v) x=BB T x:=by
 cases d with
 | none=>rfl
 | some t=>
  cases x with
  | tmp u=>
   have K:t≠u:=fun e=>h t rfl (e▸rfl);simp only [Cr,BB,Array.getD_eq_getD_getElem?,Array.getElem?_setIfInBounds_ne K]
  | _=>rfl
theorem F3{T:Aw}{d:Option Tmp}{v:Value}{o:Oper}(hs:∀cs b,o.op≠ .select cs b)(h:∀t,d=some t→t ∉ o.looksAt ops):
  execOp (BB (Cr T d v)) o=execOp (BB T) o∧Region.wanted o (yielded ops (Cr T d v))=Region.wanted o (yielded ops T):=by
 refine⟨execOp_congr o hs fun x K=>Ta fun t ht O=>h t ht ?_,?_⟩
 ·subst O;exact List.mem_append_left _ (List.mem_filterMap.2 ⟨.tmp t,by simpa using K,rfl⟩)
 ·have:=wanted_put (ops:=ops) o (⟨T,[]⟩:Act) d v h
  rwa [act_put'] at this
 where
  act_put' {T : Aw} {d : Option Tmp} {v : Value} : (⟨T, []⟩ : Act).put d v = ⟨Cr T d v, []⟩ := by cases d <;> rfl
theorem GJ{T:Aw}{d e:Option Tmp}{v u:Value}(h:∀t,d=some t→e≠some t):Cr (Cr T d v) e u=Cr (Cr T e u) d v:=by
 cases d with
 | none=>rfl
 | some t=>
  cases e with
  | none=>rfl
  | some K=>
   have O:t≠K:=fun q=>h t rfl (q▸rfl);simp [Cr,Array.setIfInBounds_comm _ _ O]
theorem M9{D:Nat→Bool}{s s':St}(K:s'.E=(Bu D s).E):(Bu D (Cp D s s')).E=(Bu D s).E:=by
 funext x;by_cases h:D x
 ·simp [Bu,Cp,h,St.get]
 ·have:=congrFun K x;simp [Bu,h] at this;simp [Bu,Cp,h,this]
def GW(ops:Ao_)(listed:Array Bool)(i:Nat)(oi:Oper):Bool:=
 (List.range ops.size).all fun j=>j==i || listed.getD j true || match ops[j]? with
  | some K=>(K.after.any fun e=>Region.binds .any e&&e.on==i) || oi.apart ops K
  | none=>true
def waits(ops:Ao_):Nat→Nat→Nat→Bool
 | 0,_,_=>false
 | f+1,j,i=>match ops[j]? with
  | some K=>K.after.any fun e=>Region.binds .any e&&(e.on==i || waits ops f e.on i)
  | none=>true
def De(ops:Ao_)(m:Nat):Bool:=
 (List.range ops.size).all fun j=>decide (j<m) || (List.range m).all fun i=>waits ops ops.size j i
def F8(ops:Ao_)(listed:Array Bool):Bool:=
 (List.range ops.size).all fun j=> !listed.getD j false || match ops[j]? with
  | some K=>K.after.all fun e=> !Region.binds .any e || listed.getD e.on false
  | none=>true
theorem LJ{listed:Array Bool}(h:F8 ops listed=true){j:Nat}{K:Oper}(O:ops[j]? =some K)(U:listed.getD j false=true):∀e∈K.after,Region.binds .any e=true→listed.getD e.on false=true:=by
 intro e he hb;have:=List.all_eq_true.1 h j (List.mem_range.2 (Array.getElem?_eq_some_iff.1 O).1);rw [U,O] at this;simp only [Bool.not_true,Bool.false_or] at this;have:=Array.all_eq_true'.1 this e he;rw [hb] at this;simpa using this
theorem M4{listed:Array Bool}(Y:F8 ops listed=true){i:Nat}:∀(f j:Nat) (O:Oper),ops[j]? =some O→(∀e∈O.after,Region.binds .any e=true→listed.getD e.on false=true)→waits ops f j i=true→listed.getD i false=true∨∃x,ops[x]? =none∧listed.getD x false=true:=by
 intro f
 induction f with
 | zero=>intro j O _ _ h;cases h
 | succ f Z=>
  intro j O aa ab h;simp only [waits,aa] at h;obtain⟨e,he,K⟩:=Array.any_eq_true'.1 h;simp only [Bool.and_eq_true,Bool.or_eq_true,beq_iff_eq] at K;obtain⟨hb,K⟩:=K;have U:=ab e he hb;rcases K with rfl | K
  ·exact .inl U
  ·cases V:ops[e.on]? with
   | none=>exact .inr ⟨_,V,U⟩
   | some o=>exact Z e.on o V (fun ac ae ag=>LJ Y V U ac ae ag) K
theorem JA.take{i:Nat}{oi:Oper}{w:Bool}{v:Value}(hi:ops[i]? =some oi)(aS:i<m)(aT:De ops m=true)(aU:Region.noSelect ops=true)(aV:∀c,oi.op≠ .defer c):
  ∀(fuel:Nat) (listed:Array Bool) (T:Aw) (s:St),GW ops listed i oi=true→F8 ops listed=true→listed.size=ops.size→i∈Region.ready .any ops listed→s.q=false→Region.wanted oi (yielded ops T)=w→
   (w=true→∀s',s'.q=false→(∀x o,(Bu D s).E x=some o→s'.E x=some o)→Yl P oi (BB T) s' v)→
   JA J Q b ds ops k cs m D fuel (A4 listed i) (Cr T oi.dst (if w then v else undef)) s→JA J Q b ds ops k cs m D (fuel+1) listed T s:=by
 have ae:∀(j:Nat) (Y:Oper),ops[j]? =some Y→∀cs b,Y.op≠Op.select cs b:=fun j Y h cs b=>Region.noSelect_spec aU j Y cs b h;intro fuel
 induction fuel with
 | zero=>?_
 | succ fuel ak=>?_
 all_goals
  intro listed T s aF aG ag al am hw ah h;refine .inr ⟨fun e=>(by rw [e] at al;cases al),am,fun j aH Y O=>?_⟩;by_cases ac:j=i
  ·subst ac;obtain rfl:Y=oi:=by rw [hi] at O;exact(Option.some.inj O).symm
   refine⟨aV,fun aw=>?_,fun ay=>?_⟩
   ·rw [aw] at hw;subst hw;exact h
   ·rw [ay] at hw;subst hw;refine CO _ (ah rfl (Bu D s) am fun _ _ h=>h).out ?_ (fun _ _ h=>h);rintro aI s' ⟨rfl,rfl⟩;rw [I3];exact h
  ·
   have aJ:j∈Region.ready .any ops (A4 listed i):=ready_mono aH ac;obtain⟨Z,U,aK,az⟩:=mem_ready.1 aH;obtain rfl:U=Y:=by rw [O] at aK;exact(Option.some.inj aK).symm
   have aA:=(mem_ready.1 al).1;have aW:(U.after.any fun e=>Region.binds .any e&&e.on==i)=false:=by
    rw [Array.any_eq_false];intro e he K;simp only [Bool.and_eq_true,beq_iff_eq] at K;have:=az _ (Array.getElem_mem he) K.1;rw [K.2] at this;have V:listed.getD i true=listed.getD i false∨listed.size≤i:=by
     rcases Nat.lt_or_ge i listed.size with q | q
     ·left;simp [Array.getD_eq_getD_getElem?,q]
     ·exact .inr q
    rcases V with V | V
    ·rw [aA,this] at V;cases V
    ·rw [Array.getD_eq_getD_getElem?,Array.getElem?_eq_none V] at this;simp at this
   have aX:oi.apart ops U=true:=by
    have ai:j<ops.size:=(Array.getElem?_eq_some_iff.1 O).1;have:=List.all_eq_true.1 aF j (List.mem_range.2 ai);simp only [Bool.or_eq_true,beq_iff_eq] at this;rcases this with(q | q) | q
    ·exact absurd q ac
    ·rw [Z] at q;cases q
    ·rw [O] at q;simp only [Bool.or_eq_true] at q;rw [aW] at q;exact q.resolve_left (by simp)
   obtain⟨aY,an,ao⟩:=Oper.apart_spec aX;obtain⟨p1,p2⟩:=F3 (ops:=ops) (T:=T) (v:=if w then v else undef) (ae j U O) aY
   first
    | exact absurd aJ (by rw [h.1];simp)
    | (
     rcases h with⟨aZ,_⟩ | ⟨bc,_,h⟩
     ·
      exfalso
      have a0:¬j<m:=by
       intro ai
       have:=List.all_eq_true.1 aZ j (List.mem_range.2 ai)
       have e2:(A4 listed i).getD j false=listed.getD j false:=getD_set_ne false (Ne.symm ac)
       rw [e2] at this
       have V:listed.getD j true=true:=by
        rcases Nat.lt_or_ge j listed.size with q | q
        ·simp [Array.getD_eq_getD_getElem?,q] at this ⊢;exact this
        ·simp [Array.getD_eq_getD_getElem?,Array.getElem?_eq_none q] at this
       rw [Z] at V;cases V
      have ai:j<ops.size:=(Array.getElem?_eq_some_iff.1 O).1
      have:=List.all_eq_true.1 aT j (List.mem_range.2 ai)
      simp only [Bool.or_eq_true,decide_eq_true_eq] at this
      have:=List.all_eq_true.1 (this.resolve_left a0) i (List.mem_range.2 aS)
      rcases M4 aG _ j U O (fun e he hb=>az e he hb) this with q | ⟨x,q1,q2⟩
      ·have a1:i<listed.size:=by rw [ag];exact(Array.getElem?_eq_some_iff.1 hi).1
       simp [Array.getD_eq_getD_getElem?,a1] at q aA
       rw [aA] at q;cases q
      ·have:¬x<listed.size:=by rw [ag];intro K;simp [K] at q1
       simp [Array.getD_eq_getD_getElem?,this] at q2
     ·obtain⟨a2,aw,ay⟩:=h j aJ U O
      have ap:A4 (A4 listed i) j=A4 (A4 listed j) i:=by
       unfold A4;exact Array.setIfInBounds_comm _ _ (Ne.symm ac)
      have aq:i∈Region.ready .any ops (A4 listed j):=ready_mono al (Ne.symm ac)
      have ar:GW ops (A4 listed j) i oi=true:=by
       refine List.all_eq_true.2 fun x K=>?_
       have:=List.all_eq_true.1 aF x K
       simp only [Bool.or_eq_true,beq_iff_eq] at this ⊢
       rcases this with(q | q) | q
       ·exact .inl (.inl q)
       ·left;right
        by_cases e:j=x
        ·subst e;rw [Z] at q;cases q
        ·rw [A4,getD_set_ne true e];exact q
       ·exact .inr q
      have au:(A4 listed j).size=ops.size:=by unfold A4;simpa using ag
      have av:F8 ops (A4 listed j)=true:=by
       refine List.all_eq_true.2 fun x K=>?_
       cases aB:ops[x]? with
       | none=>simp
       | some a3=>
        simp only [Bool.or_eq_true,Bool.not_eq_true']
        by_cases e:j=x
        ·subst e
         obtain rfl:a3=U:=by rw [O] at aB;exact(Option.some.inj aB).symm
         right
         refine Array.all_eq_true'.2 fun e he=>?_
         cases hb:Region.binds .any e with
         | false=>simp
         | true=>
          have:=az e he hb
          by_cases e2:j=e.on
          ·rw [← e2] at this
           have aC:j<listed.size:=by rw [ag];exact(Array.getElem?_eq_some_iff.1 O).1
           simp [Array.getD_eq_getD_getElem?,aC] at this Z
           rw [Z] at this;cases this
          ·rw [A4,getD_set_ne false e2];simpa using this
        ·cases aL:(A4 listed j).getD x false with
         | false=>exact .inl rfl
         | true=>
          right
          have a4:listed.getD x false=true:=by rw [A4,getD_set_ne false e] at aL;exact aL
          refine Array.all_eq_true'.2 fun aD he=>?_
          cases hb:Region.binds .any aD with
          | false=>simp
          | true=>
           have:=LJ aG aB a4 aD he hb
           by_cases e2:j=aD.on
           ·rw [← e2] at this
            have aC:j<listed.size:=by rw [ag];exact(Array.getElem?_eq_some_iff.1 O).1
            simp [Array.getD_eq_getD_getElem?,aC] at this Z
            rw [Z] at this;cases this
           ·rw [A4,getD_set_ne false e2];simpa using this
      refine⟨a2,fun a5=>?_,fun a6=>?_⟩
      ·have:=aw (by rw [p2];exact a5)
       rw [ap,GJ an] at this
       obtain⟨q1,q2⟩:=F3 (ops:=ops) (T:=T) (d:=U.dst) (v:=undef) (o:=oi) (ae i oi hi) ao
       exact ak _ _ _ ar av au aq am (by rw [q2];exact hw) (fun aa s' a7 aE=>by unfold Yl;rw [q1];exact(ah aa s' a7 aE).out) this
      ·have aM:=Lo _ (ay (by rw [p2];exact a6))
       rw [p1] at aM
       refine CO _ aM ?_ (fun _ _ h=>h)
       rintro aI s' ⟨K,aE,a8⟩
       have aN:=M9 (D:=D) aE
       have aO:(Cp D s s').q=false:=by show s'.q=false;rw [a8];exact am
       cases aI with
       | value u=>
        simp only at K ⊢
        rw [ap,GJ an] at K
        obtain⟨q1,q2⟩:=F3 (ops:=ops) (T:=T) (d:=U.dst) (v:=u) (o:=oi) (ae i oi hi) ao
        exact ak _ _ _ ar av au aq aO (by rw [q2];exact hw) (fun aa s2 aj ab=>by unfold Yl;rw [q1];exact(ah aa s2 aj (by rw [aN] at ab;exact ab)).out) K
       | skip=>
        simp only at K ⊢
        rw [ap,GJ an] at K
        obtain⟨q1,q2⟩:=F3 (ops:=ops) (T:=T) (d:=U.dst) (v:=undef) (o:=oi) (ae i oi hi) ao
        exact ak _ _ _ ar av au aq aO (by rw [q2];exact hw) (fun aa s2 aj ab=>by unfold Yl;rw [q1];exact(ah aa s2 aj (by rw [aN] at ab;exact ab)).out) K
       | enter f args=>
        obtain⟨R,a9,ba⟩:=K
        refine⟨R,a9,fun u bb hu=>?_⟩
        obtain⟨aP,aQ,aR⟩:=ba u bb hu
        refine⟨aP,aQ,?_⟩
        rw [ap,GJ an] at aR
        obtain⟨q1,q2⟩:=F3 (ops:=ops) (T:=T) (d:=U.dst) (v:=u) (o:=oi) (ae i oi hi) ao
        exact ak _ _ _ ar av au aq aP (by rw [q2];exact hw) (fun aa s2 aj ab=>by unfold Yl;rw [q1];exact(ah aa s2 aj (fun x o K=>ab x o (aQ x o K))).out) aR
       | _=>exact K.elim)
end
end Pal
namespace Pal
open Go Go.Conc
section
variable {P:Program}(J:Judge P)(Q:Gs_)(b:Frame)(n:Nat)(ds:Ld_)(ops:Ao_)(k:Li_)(cs:Lf_)(m:Nat)(D:Nat→Bool)
def AQ(fuel:Nat)(listed:Array Bool)(L:Env)(s:St):Prop:=∀T,Has n L T→JA J Q b ds ops k cs m D fuel listed T s
end
def CQ:Nat→Bool:=fun _=>false
section
variable {P:Program}{J:Judge P}{Q:Gs_}{b:Frame}{n:Nat}{ds:Ld_}{ops:Ao_}{k:Li_}{cs:Lf_}{m fuel:Nat}{D:Nat→Bool}{listed:Array Bool}{L:Env}{s:St}
theorem N5(m:Nat)(D:Nat→Bool){id:Nat}(K:s.q=false)(hm:P.follows .mixedOrders=true)(O:(b.kind != .early)=true)(h:AQ J Q b n ds ops k cs m D ops.size (Array.replicate ops.size false) L s):JL J Q b n L ds (.code (.region id ops true)::k) cs s:=
 Ox K hm fun t T U=>R4 (by simpa using O) ops.size t _ T s (h T U)
theorem RA{i:Nat}{oi:Oper}{v:Value}(hi:ops[i]? =some oi)(U:decide (i<m)=true)(V:De ops m=true)(Y:Region.noSelect ops=true)(O:(!CV oi.op)=true)(Z:GW ops listed i oi=true)(aa:F8 ops listed=true)(ab:(listed.size==ops.size)=true)(ac:(Region.ready .any ops listed).contains i=true)(ae:s.q=false)
  (hw:A5 L ops oi=some true) (ag:Bs n oi.dst=true) (ah:∀ρ,DJ L ρ→∀s',s'.q=false→(∀x o,(Bu D s).E x=some o→s'.E x=some o)→Yl P oi ρ s' v)
  (h:AQ J Q b n ds ops k cs m D fuel (A4 listed i) (Ax L oi.dst v) s):AQ J Q b n ds ops k cs m D (fuel+1) listed L s:=fun T K=>by
 refine JA.take (w:=true) (v:=v) hi (by simpa using U) V Y (fun c ai=>by rw [ai] at O;simp [CV] at O) fuel listed T s Z aa (by simpa using ab) (by simpa using ac) ae (CL K hw) (fun _ s' aj ak=>ah _ K.Fx s' aj ak) ?_
 exact h _ (K.put ag v)
theorem RM{i:Nat}{oi:Oper}(hi:ops[i]? =some oi)(U:decide (i<m)=true)(V:De ops m=true)(Y:Region.noSelect ops=true)(K:(!CV oi.op)=true)(Z:GW ops listed i oi=true)(aa:F8 ops listed=true)(ab:(listed.size==ops.size)=true)(ac:(Region.ready .any ops listed).contains i=true)(ae:s.q=false)
  (hw:A5 L ops oi=some false) (ag:Bs n oi.dst=true)
  (h:AQ J Q b n ds ops k cs m D fuel (A4 listed i) (Ax L oi.dst undef) s):AQ J Q b n ds ops k cs m D (fuel+1) listed L s:=fun T O=>by
 refine JA.take (w:=false) (v:=undef) hi (by simpa using U) V Y (fun c ah=>by rw [ah] at K;simp [CV] at K) fuel listed T s Z aa (by simpa using ab) (by simpa using ac) ae (CL O hw) (fun e=>by cases e) ?_
 exact h _ (O.put ag undef)
theorem Og(ab:s.q=false)(ac:Region.ready .any ops listed≠ [])
  (h:∀i∈Region.ready .any ops listed,∀o,ops[i]? =some o→(!CV o.op)=true∧Bs n o.dst=true∧∃w,A5 L ops o=some w∧
   (w=false→AQ J Q b n ds ops k cs m D fuel (A4 listed i) (Ax L o.dst undef) s)∧
   (w=true→∀ρ,DJ L ρ→lp P (execOp ρ o) (Bu D s) (fun Z s'=>match Z with
    | .value v=>AQ J Q b n ds ops k cs m D fuel (A4 listed i) (Ax L o.dst v) (Cp D s s')
    | .skip=>AQ J Q b n ds ops k cs m D fuel (A4 listed i) (Ax L o.dst undef) (Cp D s s')
    | .enter f args=>∃R,Dt J f args (Cp D s s') R∧∀v K,R v K→K.q=false∧(∀x o,(Bu D s).E x=some o→(Bu D K).E x=some o)∧AQ J Q b n ds ops k cs m D fuel (A4 listed i) (Ax L o.dst v) K
    | _=>False) (fun _ _=>False))):
  AQ J Q b n ds ops k cs m D (fuel+1) listed L s:=fun T O=>by
 refine .inr ⟨ac,ab,fun i hi o ae=>?_⟩
 obtain⟨aa,U,w,hw,ag,ah⟩:=h i hi o ae
 have V:=CL O hw
 refine⟨fun c ai=>by rw [ai] at aa;simp [CV] at aa,fun e=>?_,fun e=>?_⟩
 ·rw [e] at V
  exact ag V.symm _ (O.put U undef)
 ·rw [e] at V;refine CO _ (ah V.symm _ O.Fx) ?_ (fun _ _ h=>h);intro Z s' Y;cases Z with
  | value v=>exact Y _ (O.put U v)
  | skip=>exact Y _ (O.put U undef)
  | enter f args=>
   obtain⟨R,aj,ak⟩:=Y;exact⟨R,aj,fun v K al=>let ⟨a,b,c⟩:=ak v K al;⟨a,b,c _ (O.put U v)⟩⟩
  | _=>exact Y.elim
theorem AQ.one{i:Nat}{o:Oper}(Z:s.q=false)(V:Region.ready .any ops listed= [i])(hi:ops[i]? =some o)(O:(!CV o.op&&Bs n o.dst)=true)(hw:A5 L ops o=some true)
  (h:∀ρ,DJ L ρ→lp P (execOp ρ o) (Bu D s) (fun aa s'=>match aa with
    | .value v=>AQ J Q b n ds ops k cs m D fuel (A4 listed i) (Ax L o.dst v) (Cp D s s')
    | .skip=>AQ J Q b n ds ops k cs m D fuel (A4 listed i) (Ax L o.dst undef) (Cp D s s')
    | .enter f args=>∃R,Dt J f args (Cp D s s') R∧∀v K,R v K→K.q=false∧(∀x o,(Bu D s).E x=some o→(Bu D K).E x=some o)∧AQ J Q b n ds ops k cs m D fuel (A4 listed i) (Ax L o.dst v) K
    | _=>False) (fun _ _=>False)):
  AQ J Q b n ds ops k cs m D (fuel+1) listed L s:=by
 simp only [Bool.and_eq_true] at O;refine Og Z (by rw [V];simp) fun j U o' Y=>?_;rw [V] at U;simp at U;subst U;obtain rfl:o'=o:=by rw [hi] at Y;exact(Option.some.inj Y).symm
 exact⟨O.1,O.2,true,hw,fun e=>(by cases e),fun _=>h⟩
theorem AQ.call{i:Nat}{d:Option Tmp}{f:FuncId}{args:Array Operand}{ats:Array TypeId}{ty:TypeId}{p:String}{af:Ae_}{g:On_}{vs:Lv_}{R:Value→St→Prop}(U:s.q=false)(V:Region.ready .any ops listed= [i])
  (Y:ops[i]? =some ⟨d,.call ⟨.value (.func f),args,ats⟩,ty,p,af,g⟩) (Z:Bs n d=true) (hw:A5 L ops ⟨d,.call ⟨.value (.func f),args,ats⟩,ty,p,af,g⟩=some true) (hb:Dj P f=true) (aa:evs L args.toList=some vs)
  (ab:Dt J f vs.toArray s R) (h:∀v K,R v K→K.q=false∧(∀x o,(Bu D s).E x=some o→(Bu D K).E x=some o)∧AQ J Q b n ds ops k cs m D fuel (A4 listed i) (Ax L d v) K):
  AQ J Q b n ds ops k cs m D (fuel+1) listed L s:=by
 refine AQ.one U V Y (by simp [CV,Z]) hw fun ρ O=>?_;have ac:args.map ρ=vs.toArray:=by
  rw [← EX O aa];apply Array.ext';simp
 have ae:ρ (.func f)= .func (.func f) #[] #[]:=O _ _ rfl;simp only [execOp,resolve,bind,Sem.bind,Deferred.ofValue,ae,pure,invoke];have e: #[]++args.map ρ++ #[]=vs.toArray:=by rw [ac];simp
 rw [e];refine H2 hb ?_;rw [I3];exact⟨R,ab,h⟩
theorem AQ.leaf{tail:List Nat}(K:MA m listed=true)(hgo:∀t,Region.linearise.go .any ops (fuel+1) t listed []=tail)(h:JL J Q b n L ds (.inRegion ops tail::k) cs s):AQ J Q b n ds ops k cs m D (fuel+1) listed L s:=fun T O=>
 .inl ⟨K,fun t=>by rw [hgo t];exact h T O⟩
theorem AQ.fin(K:Region.ready .any ops listed= [])(h:JL J Q b n L ds k cs s):AQ J Q b n ds ops k cs m D 0 listed L s:=fun T O=>⟨K,JL.done h T O⟩
theorem TM{listed:Array Bool}{i:Nat}{tail:List Nat}{fuel:Nat}(K:Region.ready .any ops listed= [i])(h:∀t,Region.linearise.go .any ops fuel t (A4 listed i) []=tail)(t:Nat):Region.linearise.go .any ops (fuel+1) t listed []=i::tail:=by
 simp only [Region.linearise.go];change (match(Region.ready .any ops listed)[t % (Region.ready .any ops listed).length]? with
  | some i=>Region.linearise.go .any ops fuel (t / (Region.ready .any ops listed).length) (listed.setIfInBounds i true) [i]
  | none=> [].reverse)=_
 rw [K];simp only [List.length_singleton,Nat.mod_one,List.getElem?_cons_zero];rw [linearise_go_acc];have:=h (t / 1);unfold A4 at this;rw [this];rfl
theorem Si{i:Nat}{rest:List Nat}{d:Option Tmp}{f:FuncId}{args:Array Operand}{ats:Array TypeId}{ty:TypeId}{p:String}{af:Ae_}{g:On_}{vs:Lv_}{R:Value→St→Prop}
  (U:ops[i]? =some ⟨d,.call ⟨.value (.func f),args,ats⟩,ty,p,af,g⟩) (hw:A5 L ops ⟨d,.call ⟨.value (.func f),args,ats⟩,ty,p,af,g⟩=some true) (K:((b.kind != .early)&&Bs n d)=true) (hb:Dj P f=true)
  (V:evs L args.toList=some vs) (Y:Dt J f vs.toArray s R) (Z:∀v s',R v s'→JL J Q b n (Ax L d v) ds (.inRegion ops rest::k) cs s'):
  JL J Q b n L ds (.inRegion ops (i::rest)::k) cs s:=fun T O=>by
 simp only [Bool.and_eq_true] at K
 have aa:args.map (BB T)=vs.toArray:=by
  rw [← EX O.Fx V];apply Array.ext';simp
 refine Judge.oper U (CL O hw) (by simpa using K.1) (.inr fun c ab=>by cases ab) ?_;have ac:lp P (execOp (BB T) ⟨d,.call ⟨.value (.func f),args,ats⟩,ty,p,af,g⟩) s (upon J Q b T ds ops i rest k cs d) (Lh J Q b T ds ops i rest k cs):=by
  simp only [execOp,resolve,bind,Sem.bind,Deferred.ofValue,BB,pure,invoke];have e: #[]++args.map (BB T)++ #[]=vs.toArray:=by rw [aa];simp
  rw [e];refine H2 hb (Y Q _ cs fun v s' ae=>?_);rw [Fp (o:=⟨d,.call ⟨.value (.func f),args,ats⟩,ty,p,af,g⟩) _ _ _ _ _ U];exact Z v s' ae _ (O.put K.2 v)
 exact ac
theorem Dt.enter{f:FuncId}{fn:Func}{c:Code}{vs:Lv_}{R:Value→St→Prop}(V:P.funcs[f]? =some fn)(hb:fn.body=some c)(aa:vs.length≤fn.ntmps)
  (h:∀(Q:Gs_) (K:Frame) (cs:Lf_),(∀v s',R v s'→J.ok Q (G (K.finish v) cs) s')→JL J Q (base f) fn.ntmps (EO 0 vs) [] [.code c] (K::cs) s):Dt J f vs.toArray s R:=fun Q K cs Y=>by
 have he:Frame.enter P f vs.toArray .normal=fr (base f) (vs.toArray++Array.replicate (fn.ntmps - vs.length) undef) [] [.code c]:=by
  simp [Frame.enter,fr,V,hb,base];rfl
 rw [he];refine h Q K cs Y _ ⟨by simp;omega,fun t v ht=>?_⟩;obtain⟨_,O⟩:=H4 ht;have Z:t<vs.length:=by
  rcases Nat.lt_or_ge t vs.length with U | U
  ·exact U
  ·simp at O;have:=(List.getElem?_eq_some_iff.1 O).1;omega
 rw [Array.getD_eq_getD_getElem?,Array.getElem?_append_left (by simpa using Z)];simp at O;simp [O]
end
end Pal
namespace Pal
open Go Go.Conc
section
variable {P:Program}{J:Judge P}{Q:Gs_}{b:Frame}{n:Nat}{ds:Ld_}{ops:Ao_}{k:Li_}{cs:Lf_}{L:Env}{s:St}{E E' H:LH}{B B0:List (Nat×Obj)}
theorem OS(O:s.q=false)(h:(∃w,Fits s w)→JL J Q b n L ds k cs s):JL J Q b n L ds k cs s:=fun T U=>by
 by_cases K:∃w,Fits s w
 ·exact h K T U
 ·exact J.step ⟨rfl,fun w f=>absurd ⟨w,f⟩ K,fun e=>by subst e;cases O⟩
theorem Nc{x:Nat}:∀{B:List (Nat×Obj)},(∃p∈B,p.1=x)→A9 B H x≠none
 | [],⟨p,K,_⟩=>by cases K
 | (c,o)::B,⟨p,K,e⟩=>by
  simp only [A9]
  split
  ·simp
  ·rename_i O;rcases List.mem_cons.1 K with q | q
   ·subst q;exact absurd e.symm O
   ·exact Nc ⟨p,q,e⟩
theorem Nd.grow(O:Nd E H B)(U:∀x,E' x≠none→A9 B H x=none):Nd E' H B:=by
 have key:∀{C:List (Nat×Obj)},Nd E H C→(∀p∈C,p∈B)→Nd E' H C:=by
  intro C
  induction C with
  | nil=>intro _ _;trivial
  | cons p C V=>
   obtain⟨c,o⟩:=p;intro hC hs;refine⟨?_,hC.2.1,hC.2.2.1,V hC.2.2.2 fun p K=>hs p (List.mem_cons_of_mem _ K)⟩;cases Y:E' c with
   | none=>rfl
   | some u=>exact absurd (U c (by rw [Y];simp)) (Nc ⟨(c,o),hs _ (by simp),rfl⟩)
 exact key O fun p K=>K
def Lu(E:LH)(K:Nat)(v:Value)(n:Nat)(xs:Lv_):Prop:=
 ∃a c,v= .slice a n c∧n≤c∧xs.length=n*K∧(n=0∨∃bk off f e fr,a=some ⟨bk,off,none⟩∧E bk=some (.cells f e fr)∧∀j w,xs[j]? =some w→f[off+j]? =some w)
theorem Lu.nil{K:Nat}:Lu E K (.slice none 0 0) 0 []:=⟨none,0,rfl,Nat.le_refl _,by simp,.inl rfl⟩
def GS(e:TypeId)(K:Nat)(a:Option Addr)(l c:Nat)(blk:List (Nat×Obj))(xs:Lv_):Prop:=
 (a=none∧l=0∧c=0∧blk= []∧xs= [])∨∃bk f,a=some ⟨bk,0,none⟩∧blk= [(bk,.cells f e (0,0))]∧f.size=c*K∧l≤c∧xs=f.toList.take (l*K)
theorem GS.nil{e:TypeId}{K:Nat}:GS e K none 0 0 [] []:= .inl ⟨rfl,rfl,rfl,rfl,rfl⟩
theorem GS.length{e:TypeId}{K:Nat}{a:Option Addr}{l c:Nat}{blk:List (Nat×Obj)}{xs:Lv_}(h:GS e K a l c blk xs):xs.length=l*K:=by
 rcases h with⟨_,rfl,_,_,rfl⟩ | ⟨bk,f,_,_,O,U,rfl⟩
 ·simp
 ·have:l*K≤c*K:=Nat.mul_le_mul_right _ U;simp [O,Nat.min_eq_left this]
theorem Qr{t e:TypeId}{v:Value}{Q:Value→St→Prop}{X:Halt→St→Prop}{z:Value}(ht:P.underlying t=some (.slice e))(O:Br P e=some v.cells.size)(U:zeroOf P e=some z)(ab:z.cells.size=v.cells.size)(ac:0<v.cells.size)(ae:v.cells.size≤64)
  (V:Nd E H B) (k:∀r,Nd E H (B++ [(r,.cells v.cells e (0,0))])→Q (.slice (some ⟨r,0,none⟩) 1 1) (mk E H (B++ [(r,.cells v.cells e (0,0))]))):lp P (Instr.buildSlice t 1 #[(0,v)]) (mk E H B) Q X:=by
 unfold Instr.buildSlice;refine Ay _ _ (CY ht ?_);refine Ay _ _ (En O ?_);rw [if_neg (by omega),if_neg (by omega)];refine Ay (x:=zeroValue e) _ (FG U ?_);have Y:Instr.fill (fun i=>some (i*v.cells.size,v.cells.size)) ((Array.range (1*v.cells.size)).map fun i=>z.cells[i % z.cells.size]!) [(0,v)]=some v.cells:=by
  simp only [Instr.fill,Array.size_map,Array.size_range,Nat.one_mul,Nat.zero_mul];rw [if_neg (by simp)];congr 1;apply Array.ext_getElem?;intro j;have key:∀(l:Lv_) (st:Nat) (c:Aw),st+l.length≤c.size→∀j,(List.foldl (fun cs (p:Value×Nat)=>cs.setIfInBounds (0+p.2) p.1) c (l.zipIdx st))[j]? =if st≤j∧j<st+l.length then l[j - st]? else c[j]? :=by
   intro l
   induction l with
   | nil=>intro st c _ j;simp;omega
   | cons x l Z=>
    intro st c ag j;simp only [List.zipIdx_cons,List.foldl_cons,List.length_cons] at*;rw [Z (st+1) _ (by simp;omega) j];simp only [Nat.zero_add];by_cases aa:j=st
    ·subst aa;rw [if_neg (by omega),if_pos (by omega)];rw [Nat.sub_self,List.getElem?_cons_zero,Array.getElem?_setIfInBounds_self_of_lt (by omega)]
    ·by_cases e2:st+1≤j∧j<st+1+l.length
     ·rw [if_pos e2,if_pos (by omega)];have:j - st=(j - (st+1))+1:=by omega
      rw [this];simp
     ·rw [if_neg e2,if_neg (by omega),Array.getElem?_setIfInBounds_ne (by omega)]
  have:=key v.cells.toList 0 ((Array.range v.cells.size).map fun i=>z.cells[i % z.cells.size]!) (by simp) j;rw [← Array.foldl_toList,Array.toList_zipIdx,this];by_cases K:j<v.cells.size
  ·simp [K]
  ·simp [K]
 rw [GI];simp only [Y];exact Ay _ _ (GL V k)
end
end Pal
namespace Pal
open Go Go.Conc
section
variable {P:Program}{J:Judge P}{Q:Gs_}{b:Frame}{n:Nat}{ds:Ld_}{ops:Ao_}{k:Li_}{cs:Lf_}{L:Env}{s:St}{E E' H:LH}{B B0:List (Nat×Obj)}
theorem Ka{ρ:Operand→Value}{d:Option Tmp}{x y:Operand}{ats:Array TypeId}{ty:TypeId}{p:String}{af:Ae_}{g:On_}:
  execOp ρ ⟨d,.call ⟨.builtin .append,#[x,y],ats⟩,ty,p,af,g⟩=(do pure (Next.value (← Builtin.append_ ats ty #[ρ x,ρ y]))):=by
 simp [execOp,resolve,invoke,builtin,bind,Sem.bind,pure]
theorem Qw{ρ:Operand→Value}{d:Option Tmp}{y:Operand}{t ty:TypeId}{p:String}{af:Ae_}{g:On_}:
  execOp ρ ⟨d,.buildSlice t 1 #[(0,y)],ty,p,af,g⟩=(do pure (Next.value (← Instr.buildSlice t 1 #[(0,ρ y)]))):=by
 simp [execOp]
theorem Ui{L:Env}{d1:Tmp}{w:Value}:ev (Ax L (some d1) w) (.tmp d1)=some w:=by
 simp [Ax,ev,look]
theorem Gq{α:Type}(l r:List α)(x y:α):(l++x::r).set l.length y=l++y::r:=by simp
theorem Hh{e t t1:TypeId}{V ag l c m:Nat}{a:Option Addr}{blk:List (Nat×Obj)}{xs ys:Lv_}{i:Nat}{rest:List Nat}{d:Option Tmp}{x y:Operand}{ats:Array TypeId}{ty:TypeId}{p:String}{af:Ae_}{g:On_}{z:Value}{ax:Option Addr}{cx:Nat}{B1:List (Nat×Obj)}
  (ap:ops[i]? =some ⟨d,.call ⟨.builtin .append,#[x,y],ats⟩,ty,p,af,g⟩) (hw:A5 L ops ⟨d,.call ⟨.builtin .append,#[x,y],ats⟩,ty,p,af,g⟩=some true) (aq:Ct b n ⟨d,.call ⟨.builtin .append,#[x,y],ats⟩,ty,p,af,g⟩=true)
  (ar:ev L x=some (.slice a l c)) (au:ev L y=some (.slice ax m cx)) (av:ats[0]? =some t) (aw:ats[1]? =some t1) (ht:P.underlying t=some (.slice e)) (ay:P.underlying t1=some (.slice e)) (az:Br P e=some V) (hb:D6 P e=some ag) (aA:zeroOf P e=some z) (aB:z.cells.size=V)
  (aC:0<ag) (aD:ag≤64) (aM:0<m) (aE:l+m≤2 ^ 40) (aF:∀w∈ys,AL w=true) (hg:GS e V a l c blk xs) (aG:Nd E H (B0++blk++B1)) (hs:FP (mk E H (B0++blk++B1)) (.slice ax m cx) V ys)
  (h:∀an aa ah,GS e V an (l+m) aa ah (xs++ys)→Nd E H (B0++ah)→JL J Q b n (Ax L d (.slice an (l+m) aa)) ds (.inRegion ops rest::k) cs (mk E H (B0++ah))):
  JL J Q b n L ds (.inRegion ops (i::rest)::k) cs (mk E H (B0++blk++B1)):=by
 refine JL.op ap hw aq fun ρ ao=>?_;rw [Ka,ao x _ ar,ao y _ au];have aH:K9 (B0++blk++B1) B0.length e V a l c xs:=by
  rcases hg with⟨O,Z,ab,ai,ac⟩ | ⟨bk,f,O,Z,ab,ai,ac⟩
  ·exact .inl ⟨O,Z,ab,ac⟩
  ·refine .inr ⟨bk,f,O,?_,ab,ai,ac⟩;subst Z;simp
 have hlen:=hg.length;refine Ay _ _ (LR (pl:=B0.length) av aw ay ht az hb aA aB aG aH hs aF aC aE aD ?_ ?_ ?_)
 ·
  intro bk f K ae aN aO aI aj ak Y;rcases hg with⟨O,_⟩ | ⟨U,f0,O,Z,ab,ai,ac⟩
  ·rw [O] at ae;cases ae
  ·subst Z;have aJ:U=bk:=by rw [O] at ae;simpa using ae
   subst aJ;have aK:(B0++ [(U,Obj.cells f0 e (0,0))]++B1).set B0.length (U,.cells K e (0,0))=B0++ [(U,.cells K e (0,0))]++B1:=by
    rw [List.append_assoc,List.append_assoc];exact Gq _ _ _ _
   rw [aK] at Y ⊢;have al:Nd E H (B0++ [(U,.cells K e (0,0))]):=Nd.left Y;refine JL.drop (B0++ [(U,.cells K e (0,0))]) (fun p am=>?_) Y (h a c _ (.inr ⟨U,K,O,rfl,aj,aI,ak.symm⟩) al);exact List.mem_iff_getElem?.1 (List.mem_append_left _ am)
 ·intro _ hm;omega
 ·
  intro r K aa aL aj ak Y;have al:Nd E H (B0++ [(r,.cells K e (0,0))]):=Nd.pick Y;refine JL.drop (B0++ [(r,.cells K e (0,0))]) (fun p am=>?_) Y (h (some ⟨r,0,none⟩) aa _ (.inr ⟨r,K,rfl,rfl,aj,aL,ak.symm⟩) al);refine List.mem_iff_getElem?.1 ?_;rcases List.mem_append.1 am with q | q
  ·simp [q]
  ·exact List.mem_append_right _ q
 where
  Nd.left {E H : LH} {A C : List (Nat × Obj)} (h : Nd E H (A ++ C)) : Nd E H A := by
    induction A with
    | nil => trivial
    | cons p A ih =>
      obtain ⟨c, o⟩ := p
      obtain ⟨h1, h2, h3, h4⟩ := h
      exact ⟨h1, h2, fun q hq => h3 q (List.mem_append_left _ hq), ih h4⟩
  Nd.pick {E H : LH} {A C F : List (Nat × Obj)} {x : Nat × Obj} (h : Nd E H (A ++ C ++ F ++ [x])) : Nd E H (A ++ [x]) := by
    induction A with
    | nil =>
      have : ∀ (D : List (Nat × Obj)), Nd E H (D ++ [x]) → Nd E H [x] := by
        intro D
        induction D with
        | nil => exact fun h => h
        | cons p D ih => obtain ⟨c, o⟩ := p; exact fun h => ih h.2.2.2
      exact this _ h
    | cons p A ih =>
      obtain ⟨c, o⟩ := p
      obtain ⟨h1, h2, h3, h4⟩ := h
      refine ⟨h1, h2, fun q hq => h3 q ?_, ih h4⟩
      rcases List.mem_append.1 hq with hq | hq
      · simp [hq]
      · exact List.mem_append_right _ hq
theorem Rx{K r:Nat}{e:TypeId}{v:Value}{A:List (Nat×Obj)}(O:v.cells.size=K)(U:Nd E H (A++ [(r,.cells v.cells e (0,0))])):
  FP (mk E H (A++ [(r,.cells v.cells e (0,0))])) (.slice (some ⟨r,0,none⟩) 1 1) K v.cells.toList:=by
 refine⟨.inl rfl,by simp [O],Nat.le_refl _,fun j w V=>?_⟩;simp only [Nat.zero_add];refine NL (i:=A.length) U (c:=v.cells) (e:=e) (f:=(0,0)) (by simp) ?_;simpa using V
theorem Q4{e t t1 t2:TypeId}{K O l c:Nat}{a:Option Addr}{blk:List (Nat×Obj)}{xs:Lv_}{i ab:Nat}{rest:List Nat}{d1:Tmp}{d:Option Tmp}{x y:Operand}{ats:Array TypeId}{ty U:TypeId}{p V:String}{af Y:Ae_}{g g':On_}{z v:Value}
  (ak:ops[i]? =some ⟨some d1,.buildSlice t2 1 #[(0,y)],U,V,Y,g'⟩) (hw:A5 L ops ⟨some d1,.buildSlice t2 1 #[(0,y)],U,V,Y,g'⟩=some true) (al:Ct b n ⟨some d1,.buildSlice t2 1 #[(0,y)],U,V,Y,g'⟩=true)
  (am:ops[ab]? =some ⟨d,.call ⟨.builtin .append,#[x,.tmp d1],ats⟩,ty,p,af,g⟩) (an:∀w,A5 (Ax L (some d1) w) ops ⟨d,.call ⟨.builtin .append,#[x,.tmp d1],ats⟩,ty,p,af,g⟩=some true) (ao:Ct b n ⟨d,.call ⟨.builtin .append,#[x,.tmp d1],ats⟩,ty,p,af,g⟩=true)
  (ap:∀w,ev (Ax L (some d1) w) x=some (.slice a l c)) (aq:ev L y=some v) (ar:ats[0]? =some t) (au:ats[1]? =some t1) (ht:P.underlying t=some (.slice e)) (av:P.underlying t1=some (.slice e)) (aw:P.underlying t2=some (.slice e)) (ac:Br P e=some K) (hb:D6 P e=some O) (ae:zeroOf P e=some z) (ag:z.cells.size=K)
  (ay:0<O) (az:O≤64) (Z:v.cells.size=K) (aE:0<K) (aF:K≤64) (aA:l+1≤2 ^ 40) (aB:∀w∈v.cells.toList,AL w=true) (hg:GS e K a l c blk xs) (aC:Nd E H (B0++blk))
  (h:∀w ah ai aa,GS e K ah (l+1) ai aa (xs++v.cells.toList)→Nd E H (B0++aa)→JL J Q b n (Ax (Ax L (some d1) w) d (.slice ah (l+1) ai)) ds (.inRegion ops rest::k) cs (mk E H (B0++aa))):
  JL J Q b n L ds (.inRegion ops (i::ab::rest)::k) cs (mk E H (B0++blk)):=by
 refine JL.op ak hw al fun ρ aD=>?_;rw [Qw,aD y _ aq];refine Ay _ _ (Qr (z:=z) (v:=v) aw (by rw [Z];exact ac) ae (by rw [Z];exact ag) (by omega) (by omega) aC fun r aj=>?_);refine Hh (B1:= [(r,.cells v.cells e (0,0))]) (m:=1) (cx:=1) (ax:=some ⟨r,0,none⟩) (y:= .tmp d1) (x:=x) (ys:=v.cells.toList) (l:=l) (c:=c) (a:=a) (blk:=blk) (xs:=xs) am (an _) ao (ap _) Ui ar au ht av ac hb ae ag ay az (by omega) aA aB hg aj ?_ (h _);exact Rx Z aj
theorem QL{e:TypeId}{K l c:Nat}{a:Option Addr}{blk:List (Nat×Obj)}{xs:Lv_}{todo:Li_}(hg:GS e K a l c blk xs)(U:Nd E H (B0++blk))
  (h:∀E',Le E E'→Lu E' K (.slice a l c) l xs→Nd E' H B0→JL J Q b n L ds todo cs (mk E' H B0)):JL J Q b n L ds todo cs (mk E H (B0++blk)):=by
 rcases hg with⟨rfl,rfl,rfl,rfl,rfl⟩ | ⟨bk,f,rfl,rfl,Z,V,rfl⟩
 ·simp only [List.append_nil] at U ⊢;exact h E (Le.refl _) .nil U
 ·have aa:(B0++ [(bk,Obj.cells f e (0,0))])[B0.length]? =some (bk,Obj.cells f e (0,0)):=by simp
  refine JL.freeze B0.length U aa fun E' hle ab Y=>?_;have ac:(B0++ [(bk,Obj.cells f e (0,0))]).eraseIdx B0.length=B0:=by rw [List.eraseIdx_append_of_length_le (Nat.le_refl _)];simp
  rw [ac] at Y ⊢;refine h E' hle ⟨_,c,rfl,V,?_,.inr ⟨bk,0,f,e,(0,0),rfl,ab,fun j w O=>?_⟩⟩ Y
  ·have:l*K≤c*K:=Nat.mul_le_mul_right _ V;simp [Z,Nat.min_eq_left this]
  ·rw [List.getElem?_take] at O;split at O
   ·simpa using O
   ·cases O
end
end Pal
namespace Pal
open Go Go.Conc
abbrev DL(s:Nat):Value:= .int .u16 (s:Int)
abbrev iV(n:Int):Value:= .int .i64 n
section
variable {P:Program}{s:St}{ρ:Operand→Value}{d:Option Tmp}{t u ty:TypeId}{x y:Operand}{p:String}{af:Ae_}{g:On_}{a c:Nat}
theorem Ml{m:Nat}(h:m<65536):IntKind.u16.wrap (m:Int)=m:=by
 simp only [IntKind.wrap,IntKind.bits,IntKind.signed];simp;omega
theorem Ln{m:Nat}(h:m<65536):(BitVec.ofInt IntKind.u16.bits (m:Int)).toNat=m:=by
 simp [IntKind.bits,BitVec.toNat_ofInt];omega
theorem Te(K:ρ x=DL a)(O:ρ y=iV (c:Int))(U:c≤16):Yl P ⟨d,.binOp .shr t x y u,ty,p,af,g⟩ ρ s (DL (a>>>c)):=by
 have h:=Yl.shr (P:=P) (s:=s) (d:=d) (t:=t) (u:=u) (ty:=ty) (p:=p) (af:=af) (g:=g) K O (by omega);have e:((a:Int).fdiv (2 ^ (min (c:Int).toNat IntKind.u16.bits)))=((a>>>c:Nat):Int):=by
  have:min (c:Int).toNat IntKind.u16.bits=c:=by simp [IntKind.bits];omega
  rw [this,Nat.shiftRight_eq_div_pow,Int.fdiv_eq_ediv_of_nonneg _ (Int.pow_nonneg (by decide))];rw [Int.natCast_ediv]
  rfl
 rw [e] at h;exact h
theorem SX(O:ρ x=DL a)(U:ρ y=DL c)(K:a<65536)(V:c<65536):Yl P ⟨d,.binOp .and t x y u,ty,p,af,g⟩ ρ s (DL (a&&& c)):=by
 have h:=Yl.and (P:=P) (s:=s) (d:=d) (t:=t) (u:=u) (ty:=ty) (p:=p) (af:=af) (g:=g) O U;rw [BitVec.toNat_and,Ln K,Ln V,Ml (Nat.lt_of_le_of_lt Nat.and_le_left K)] at h;exact h
theorem TO(U:ρ x=DL a)(V:ρ y=DL c)(K:a<65536)(O:c<65536):Yl P ⟨d,.binOp .or t x y u,ty,p,af,g⟩ ρ s (DL (a ||| c)):=by
 have h:=Yl.or (P:=P) (s:=s) (d:=d) (t:=t) (u:=u) (ty:=ty) (p:=p) (af:=af) (g:=g) U V;rw [BitVec.toNat_or,Ln K,Ln O,Ml (Nat.or_lt_two_pow (n:=16) K O)] at h;exact h
theorem Td(K:ρ x=DL 1)(O:ρ y=iV (c:Int))(U:c<16):Yl P ⟨d,.binOp .shl t x y u,ty,p,af,g⟩ ρ s (DL (1<<<c)):=by
 have h:=Yl.shl (P:=P) (s:=s) (d:=d) (t:=t) (u:=u) (ty:=ty) (p:=p) (af:=af) (g:=g) K O (by omega);have e:IntKind.u16.wrap (((1:Nat):Int)*2 ^ (min (c:Int).toNat IntKind.u16.bits))=((1<<<c:Nat):Int):=by
  have V:min (c:Int).toNat IntKind.u16.bits=c:=by simp [IntKind.bits];omega
  have Y:(1<<<c)<65536:=by rw [Nat.one_shiftLeft];exact Nat.pow_lt_pow_right (n:=16) (by omega) U
  rw [V,← Ml Y,Nat.one_shiftLeft];simp
 rw [e] at h;exact h
end
theorem L8{P:Program}{t:TypeId}{K:TypeInfo}(h:P.types[t]? =some K):P.info? t=some K:=by
 have:=(Array.getElem?_eq_some_iff.1 h).1;unfold Tables.info?;rw [if_pos this,h]
theorem A3{P:Program}{t:TypeId}{K:TypeInfo}(h:P.types[t]? =some K):Br P t=some K.size:=by simp [Br,L8 h]
theorem FJ{P:Program}{t:TypeId}{K:TypeInfo}(h:P.types[t]? =some K):D6 P t=some K.bytes:=by simp [D6,L8 h]
theorem Dw{P:Program}{t:TypeId}{K:TypeInfo}(h:P.types[t]? =some K):zeroOf P t=K.zero:=by simp [zeroOf,L8 h]
def TV:TypeDesc→Bool | .struct _=>true | .array _ _=>true | _=>false
theorem Dc{P:Program}{t:TypeId}{d:TypeDesc}(h:P.underlying t=some d):CM P t=some (TV d):=by
 unfold CM;rw [h];cases d <;> rfl
theorem Bc{P:Program}{f:FuncId}{fn:Func}(h:P.funcs[f]? =some fn)(hb:(!(fn.name== "runtime.NumGoroutine")&&fn.body.isSome)=true):Dj P f=true:=by
 simp only [Dj,h];exact hb
end Pal
namespace Pal
end Pal
namespace Pal
open Go Go.Conc
end Pal
namespace Pal
open Go Go.Conc
def At(E:LH)(bk o:Nat)(ws:Lv_):Prop:=∃f e fr,E bk=some (.cells f e fr)∧∀j w,ws[j]? =some w→f[o+j]? =some w
theorem At.Ad{E E':LH}{bk o:Nat}{ws:Lv_}(h:At E bk o ws)(hle:Le E E'):At E' bk o ws:=let ⟨f,e,fr,K,O⟩:=h;⟨f,e,fr,hle _ _ K,O⟩
theorem At.cell{E H:LH}{B:List (Nat×Obj)}{bk o j:Nat}{ws:Lv_}{w:Value}(h:At E bk o ws)(K:ws[j]? =some w):(mk E H B).cell? ⟨bk,o+j,none⟩=some w:=
 let ⟨_,_,_,O,U⟩:=h;RQ O (U j w K)
theorem At.cells{E H:LH}{B:List (Nat×Obj)}{bk o:Nat}{ws:Lv_}(h:At E bk o ws):∀j v,ws[j]? =some v→(mk E H B).cell? (Addr.add ⟨bk,o,none⟩ j)=some v:=fun j v K=>by
 rw [Dq rfl];exact h.cell K
section
variable {P:Program}{J:Judge P}{Q:Gs_}{b:Frame}{n:Nat}{ds:Ld_}{ops:Ao_}{k:Li_}{cs:Lf_}{L:Env}{s:St}{E E' H:LH}{B B0:List (Nat×Obj)}
variable {d:Option Tmp}{x y:Operand}{t u ty e:TypeId}{p:String}{af:Ae_}{g:On_}{v:Value}{i:Nat}{rest:List Nat}{kd:IntKind}
theorem JL.put(h:look L i=some v)(O:JL J Q b n (Ax L (some i) v) ds k cs s):JL J Q b n L ds k cs s:=fun T K=>
 O T ⟨K.size,fun t w e=>by
  simp only [Ax,look] at e
  split at e
  ·rename_i U;subst U;cases e;exact K.at_ _ _ h
  ·exact K.at_ _ _ e⟩
theorem RP{q:Prop} [Decidable q] (h:look L i=some (.bool (decide q)))(O:q→JL J Q b n (Ax L (some i) (.bool true)) ds k cs s)(U:¬q→JL J Q b n (Ax L (some i) (.bool false)) ds k cs s):JL J Q b n L ds k cs s:=by
 by_cases K:q
 ·refine JL.put (i:=i) (v:= .bool true) ?_ (O K);rw [h,decide_eq_true K]
 ·refine JL.put (i:=i) (v:= .bool false) ?_ (U K);rw [h,decide_eq_false K]
theorem RR{c:Bool}(h:look L i=some (.bool c))(K:c=true→JL J Q b n (Ax L (some i) (.bool true)) ds k cs s)(O:c=false→JL J Q b n (Ax L (some i) (.bool false)) ds k cs s):JL J Q b n L ds k cs s:=by
 cases c
 ·exact JL.put h (O rfl)
 ·exact JL.put h (K rfl)
end
end Pal
namespace Pal
open Go Go.Conc
theorem Pj{P:Program}{s:St}{ρ:Operand→Value}{d:Option Tmp}{t ty ft:TypeId}{x:Operand}{p:String}{af:Ae_}{g:On_}{a:Addr}{O:Array Field}{i:Nat}{K:Field}(U off:Nat)(ht:P.underlying t=some (.struct O))(V:Br P ft=some (U+1))(hi:O[i]? =some K)(Y:K.type=ft)(Z:K.offset=off)(aa:ρ x= .pointer (some a)):
  Yl P ⟨d,.fieldAddr t x i,ty,p,af,g⟩ ρ s (.pointer (some (a.add off))):=by
 subst Y Z;exact Yl.fieldAddr ht hi V aa
end Pal
namespace Pal
open Go Go.Conc
section
variable {P:Program}{J:Judge P}{Q:Gs_}{b:Frame}{n:Nat}{ds:Ld_}{ops:Ao_}{k:Li_}{cs:Lf_}{L:Env}{s:St}{E E' H:LH}{B B0:List (Nat×Obj)}
variable {d:Option Tmp}{x y:Operand}{t u ty e:TypeId}{p:String}{af:Ae_}{g:On_}{v:Value}{i:Nat}{rest:List Nat}{kd:IntKind}
theorem At.MB{bk o j:Nat}{ws:Lv_}{w:Value}(h:At E bk o ws)(hs:∀x o,E x=some o→s.E x=some o)(K:ws[j]? =some w):s.cell? ⟨bk,o+j,none⟩=some w:=by
 obtain⟨f,e,fr,O,U⟩:=h;unfold St.cell? St.get;rw [hs _ _ O];exact U j w K
theorem At.Mk{bk o:Nat}{ws:Lv_}(h:At E bk o ws)(hs:∀x o,E x=some o→s.E x=some o):∀j v,ws[j]? =some v→s.cell? (Addr.add ⟨bk,o,none⟩ j)=some v:=fun j v K=>by
 rw [Dq rfl];exact h.MB hs K
end
section
variable {P:Program}{J:Judge P}{Q:Gs_}{b:Frame}{n:Nat}{ds:Ld_}{ops:Ao_}{k:Li_}{cs:Lf_}{m fuel:Nat}{listed:Array Bool}{L:Env}{E H:LH}{B:List (Nat×Obj)}
variable {d:Option Tmp}{x y:Operand}{t u ty e:TypeId}{p:String}{af:Ae_}{g:On_}{v:Value}{i:Nat}{kd:IntKind}
end
end Pal
namespace Pal
open Go Go.Conc
section
variable {P:Program}{J:Judge P}{Q:Gs_}{b:Frame}{n:Nat}{ds:Ld_}{ops:Ao_}{k:Li_}{cs:Lf_}{m fuel:Nat}{D:Nat→Bool}{listed:Array Bool}{L:Env}{s:St}{i:Nat}{v:Value}
theorem AQ.put(h:look L i=some v)(O:AQ J Q b n ds ops k cs m D fuel listed (Ax L (some i) v) s):AQ J Q b n ds ops k cs m D fuel listed L s:=fun T K=>
 O T ⟨K.size,fun t w e=>by
  simp only [Ax,look] at e
  split at e
  ·rename_i U;subst U;cases e;exact K.at_ _ _ h
  ·exact K.at_ _ _ e⟩
theorem FH{q:Prop} [Decidable q] (h:look L i=some (.bool (decide q)))(O:q→AQ J Q b n ds ops k cs m D fuel listed (Ax L (some i) (.bool true)) s)(U:¬q→AQ J Q b n ds ops k cs m D fuel listed (Ax L (some i) (.bool false)) s):AQ J Q b n ds ops k cs m D fuel listed L s:=by
 by_cases K:q
 ·refine AQ.put (i:=i) (v:= .bool true) ?_ (O K);rw [h,decide_eq_true K]
 ·refine AQ.put (i:=i) (v:= .bool false) ?_ (U K);rw [h,decide_eq_false K]
end
end Pal
namespace Pal
open Go Go.Conc
structure Rp (α:Type) where
 n:Nat
 r:LH→Lv_→α→Prop
 Ad:∀{E E':LH} {ws:Lv_} {x:α},Le E E'→r E ws x→r E' ws x
 len:∀{E:LH} {ws:Lv_} {x:α},r E ws x→ws.length=n
 one:∀{E:LH} {ws:Lv_} {x:α},r E ws x→∀w∈ws,AL w=true
def rK(kd:IntKind):Rp Int:=⟨1,fun _ ws x=>ws= [.int kd x],fun _ h=>h,fun h=>by subst h;rfl,fun h w hw=>by subst h;simp at hw;subst hw;rfl⟩
abbrev rI:Rp Int:=rK .i64
def rN(kd:IntKind):Rp Nat:=⟨1,fun _ ws x=>ws= [.int kd ((x:Nat):Int)],fun _ h=>h,fun h=>by subst h;rfl,fun h w hw=>by subst h;simp at hw;subst hw;rfl⟩
def rB:Rp Bool:=⟨1,fun _ ws x=>ws= [.bool x],fun _ h=>h,fun h=>by subst h;rfl,fun h w hw=>by subst h;simp at hw;subst hw;rfl⟩
def rP{α β:Type}(p:Rp α)(q:Rp β):Rp (α×β):=⟨p.n+q.n,fun E ws x=>∃U V,ws=U++V∧p.r E U x.1∧q.r E V x.2,
 fun hle ⟨a,b,h,K,O⟩=>⟨a,b,h,p.Ad hle K,q.Ad hle O⟩,fun⟨a,b,h,K,O⟩=>by subst h;rw [List.length_append,p.len K,q.len O],
 fun⟨a,b,h,K,O⟩ w hw=>by
  subst h
  rcases List.mem_append.1 hw with hw | hw
  ·exact p.one K w hw
  ·exact q.one O w hw⟩
def Aq{α:Type}(p:Rp α)(E:LH)(a:Option Addr)(c:Nat)(xs:List α):Prop:=
 xs.length≤c∧((xs= []∧∀ad:Addr,a=some ad→ad.spot=none∨c=0)∨∃bk off,a=some ⟨bk,off,none⟩∧∀(i:Nat) x,xs[i]? =some x→∃ws,p.r E ws x∧At E bk (off+i*p.n) ws)
theorem Aq.Ad{α:Type}{p:Rp α}{E E':LH}{a:Option Addr}{c:Nat}{xs:List α}(h:Aq p E a c xs)(hle:Le E E'):Aq p E' a c xs:=
 ⟨h.1,h.2.imp id fun⟨bk,off,K,O⟩=>⟨bk,off,K,fun i x U=>let ⟨ws,V,Y⟩:=O i x U;⟨ws,p.Ad hle V,Y.Ad hle⟩⟩⟩
theorem Aq.nil{α:Type}{p:Rp α}{E:LH}{c:Nat}:Aq p E none c []:=⟨Nat.zero_le _,.inl ⟨rfl,fun _ h=>by cases h⟩⟩
def rL{α:Type}(p:Rp α):Rp (List α):=⟨1,fun E ws xs=>∃a c,ws= [.slice a xs.length c]∧Aq p E a c xs,
 fun hle ⟨a,c,h,K⟩=>⟨a,c,h,K.Ad hle⟩,fun⟨a,c,h,K⟩=>by subst h;rfl,fun⟨a,c,h,K⟩ w hw=>by subst h;simp at hw;subst hw;rfl⟩
def rA{α:Type}(k:Nat)(p:Rp α):Rp (List α):=⟨k*p.n,fun E ws xs=>xs.length=k∧∃K:List (Lv_),ws=K.flatten∧K.length=k∧∀(i:Nat) x us,xs[i]? =some x→K[i]? =some us→p.r E us x,
 fun hle ⟨V,K,h,O,U⟩=>⟨V,K,h,O,fun i x us a b=>p.Ad hle (U i x us a b)⟩,
 fun {E ws xs} ⟨V,K,h,O,U⟩=>by
  subst h
  have:∀(K:List (Lv_)) (xs:List α),xs.length=K.length→(∀(i:Nat) x us,xs[i]? =some x→K[i]? =some us→p.r E us x)→K.flatten.length=K.length*p.n:=by
   intro K
   induction K with
   | nil=>intro xs _ _;simp
   | cons us K Z=>
    intro xs Y h
    cases xs with
    | nil=>simp at Y
    | cons x xs=>
     rw [List.flatten_cons,List.length_append,p.len (h 0 x us rfl rfl),Z xs (by simpa using Y) (fun i y u a b=>h (i+1) y u a b),List.length_cons,Nat.succ_mul,Nat.add_comm]
  rw [this K xs (by omega) U,O],
 fun {E ws xs} ⟨V,K,h,O,U⟩ w hw=>by
  subst h
  obtain⟨us,aa,hw⟩:=List.mem_flatten.1 hw
  obtain⟨i,hi⟩:=List.mem_iff_getElem?.1 aa
  have ab:i<xs.length:=by rw [V,← O];exact(List.getElem?_eq_some_iff.1 hi).1
  exact p.one (U i _ us (List.getElem?_eq_getElem ab) hi) w hw⟩
def ix{α:Type}(xs:List α)(i:Int):Option α:=if 0≤i then xs[i.toNat]? else none
theorem Gt{α:Type}{xs:List α}{i:Int}{x:α}(h:ix xs i=some x):∃m:Nat,i=m∧xs[m]? =some x:=by
 unfold ix at h;split at h
 ·exact⟨i.toNat,by omega,h⟩
 ·cases h
def AA(x:Int):Option Int:=if -9223372036854775808≤x∧x≤9223372036854775807 then some x else none
theorem I1{x y:Int}(h:AA x=some y):y=x∧ -9223372036854775808≤x∧x≤9223372036854775807:=by
 unfold AA at h;split at h
 ·rename_i hb;exact⟨(Option.some.inj h).symm,hb⟩
 ·cases h
theorem bind_some{α β:Type}{o:Option α}{f:α→Option β}{r:β}(h:o.bind f=some r):∃x,o=some x∧f x=some r:=by
 cases o with
 | none=>cases h
 | some x=>exact⟨x,rfl,h⟩
inductive Bz (S A:Type) where
 | more (s:S)
 | done (a:A)
def iter{S A:Type}(body:S→Option (Bz S A)):Nat→S→Option A
 | 0,_=>none
 | f+1,s=>match body s with
  | none=>none
  | some (.done a)=>some a
  | some (.more s')=>iter body f s'
theorem Nv{S A:Type}{body:S→Option (Bz S A)}{f:Nat}{s:S}{a:A}(h:iter body (f+1) s=some a):∃st,body s=some st:=by
 simp only [iter] at h;cases hb:body s with
 | none=>rw [hb] at h;cases h
 | some st=>exact⟨st,rfl⟩
theorem NG{S A:Type}{body:S→Option (Bz S A)}{f:Nat}{s:S}{a K:A}(h:iter body (f+1) s=some a)(hb:body s=some (.done K)):K=a:=by
 simp only [iter,hb] at h;exact Option.some.inj h
theorem Nn{S A:Type}{body:S→Option (Bz S A)}{f:Nat}{s s':S}{a:A}(h:iter body (f+1) s=some a)(hb:body s=some (.more s')):iter body f s'=some a:=by
 simp only [iter,hb] at h;exact h
abbrev Seg:=List (Nat×Obj)
def Am(E H:LH)(S:List Seg):St:=mk E H S.flatten
def Ar(E H:LH)(S:List Seg):Prop:=Nd E H S.flatten
theorem Nd.mem{E H:LH}:∀{B:List (Nat×Obj)} {b:Nat} {o:Obj},Nd E H B→(b,o)∈B→∃i:Nat,B[i]? =some (b,o):=fun _ h=>List.mem_iff_getElem?.1 h
theorem Nd.iff{E H:LH}:∀{B:List (Nat×Obj)},Nd E H B↔(B.map (·.1)).Nodup∧∀p∈B,E p.1=none∧H p.1=none
 | []=>by simp [Nd]
 | (b,o)::B=>by
  simp only [Nd,List.map_cons,List.nodup_cons,List.mem_cons,forall_eq_or_imp,Nd.iff (B:=B),List.mem_map,not_exists,not_and]
  constructor
  ·rintro⟨K,O,U,V,Y⟩;exact⟨⟨U,V⟩,⟨K,O⟩,Y⟩
  ·rintro⟨⟨U,V⟩,⟨K,O⟩,Y⟩;exact⟨K,O,U,V,Y⟩
theorem Nd.perm{E H:LH}{B B':List (Nat×Obj)}(h:Nd E H B)(K:B.Perm B'):Nd E H B':=by
 rw [Nd.iff] at h ⊢;exact⟨(K.map _).nodup_iff.1 h.1,fun p O=>h.2 p (K.mem_iff.2 O)⟩
theorem IZ{E H:LH}{B B':List (Nat×Obj)}(h:Nd E H B)(K:B.Perm B'):A9 B H=A9 B' H:=by
 funext x;by_cases O:∃p∈B,p.1=x
 ·obtain⟨⟨b,o⟩,hm,rfl⟩:=O;obtain⟨i,hi⟩:=h.mem hm;obtain⟨j,U⟩:=(h.perm K).mem (K.mem_iff.1 hm);rw [GO h hi,GO (h.perm K) U]
 ·have key:∀{C:List (Nat×Obj)},(∀p∈C,p.1≠x)→A9 C H x=H x:=by
   intro C
   induction C with
   | nil=>intro _;rfl
   | cons p C V=>
    intro hC;obtain⟨c,u⟩:=p;have Y:x≠c:=fun e=>hC (c,u) (by simp) e.symm;simp only [A9,if_neg Y];exact V fun p K=>hC p (List.mem_cons_of_mem _ K)
  rw [key fun p K e=>O ⟨p,K,e⟩,key fun p Z e=>O ⟨p,K.mem_iff.2 Z,e⟩]
theorem Ep{E H:LH}{B B':List (Nat×Obj)}(h:Nd E H B)(K:B.Perm B'):mk E H B=mk E H B':=by unfold mk;rw [IZ h K]
theorem DG{S:List Seg}{j:Nat}{seg seg':Seg}(h:S[j]? =some seg):S.flatten.Perm ((S.set j []).flatten++seg)∧(S.set j seg').flatten.Perm ((S.set j []).flatten++seg'):=by
 induction S generalizing j with
 | nil=>simp at h
 | cons x S K=>
  cases j with
  | zero=>
   simp at h;subst h;simp only [List.set_cons_zero,List.flatten_cons,List.nil_append];exact⟨List.perm_append_comm,List.perm_append_comm⟩
  | succ j=>
   simp at h;obtain⟨O,U⟩:=K h;simp only [List.set_cons_succ,List.flatten_cons,List.append_assoc];exact⟨O.append_left x,U.append_left x⟩
theorem EL{E H:LH}{S:List Seg}{j:Nat}{seg:Seg}(K:Ar E H S)(h:S[j]? =some seg):Am E H S=mk E H ((S.set j []).flatten++seg)∧Nd E H ((S.set j []).flatten++seg):=
 ⟨Ep K (DG (seg':=seg) h).1,Nd.perm K (DG (seg':=seg) h).1⟩
theorem F9{E H:LH}{S:List Seg}{j:Nat}{seg seg':Seg}(h:S[j]? =some seg)(K:Nd E H ((S.set j []).flatten++seg')):mk E H ((S.set j []).flatten++seg')=Am E H (S.set j seg')∧Ar E H (S.set j seg'):=
 ⟨Ep K (DG h).2.symm,Nd.perm K (DG h).2.symm⟩
theorem F4(S:List Seg)(seg:Seg):(S++ [seg]).flatten=S.flatten++seg:=by simp
theorem Ee{E H:LH}{S:List Seg}{seg:Seg}(K:Nd E H (S.flatten++seg)):mk E H (S.flatten++seg)=Am E H (S++ [seg])∧Ar E H (S++ [seg]):=by
 unfold Am Ar;rw [F4];exact⟨rfl,K⟩
theorem D5{E H:LH}{S:List Seg}{j i bk:Nat}{seg:Seg}{o:Obj}(K:Ar E H S)(O:S[j]? =some seg)(hi:seg[i]? =some (bk,o)):(Am E H S).get bk=some o:=by
 have hm:(bk,o)∈S.flatten:=List.mem_flatten.2 ⟨seg,List.mem_of_getElem? O,List.mem_of_getElem? hi⟩;obtain⟨V,U⟩:=K.mem hm;exact LN K U
theorem Cu{E H:LH}{S:List Seg}{j bk off:Nat}{c:Aw}{e:TypeId}{f:Nat×Nat}{v:Value}{seg:Seg}(K:Ar E H S)(O:S[j]? =some ((bk,.cells c e f)::seg))(U:c[off]? =some v):(Am E H S).cell? ⟨bk,off,none⟩=some v:=by
 unfold St.cell?;rw [D5 (i:=0) K O rfl];exact U
theorem Q7{E H:LH}{S:List Seg}{j bk off:Nat}{c:Aw}{e:TypeId}{f:Nat×Nat}{vs:Lv_}{seg:Seg}(K:Ar E H S)(O:S[j]? =some ((bk,.cells c e f)::seg))(U:∀i v,vs[i]? =some v→c[off+i]? =some v):∀i v,vs[i]? =some v→(Am E H S).cell? (Addr.add ⟨bk,off,none⟩ i)=some v:=fun i v hi=>by
 rw [Dq rfl];exact Cu K O (U i v hi)
def OL{α:Type}(e:TypeId)(p:Rp α)(E:LH)(a:Option Addr)(c:Nat)(seg:Seg)(xs:List α):Prop:=
 ∃K:List (Lv_),GS e p.n a xs.length c seg K.flatten∧K.length=xs.length∧∀(i:Nat) x ws,xs[i]? =some x→K[i]? =some ws→p.r E ws x
theorem OL.Ad{α:Type}{e:TypeId}{p:Rp α}{E E':LH}{a:Option Addr}{c:Nat}{seg:Seg}{xs:List α}(h:OL e p E a c seg xs)(hle:Le E E'):OL e p E' a c seg xs:=
 let ⟨K,O,U,V⟩:=h;⟨K,O,U,fun i x ws Y hw=>p.Ad hle (V i x ws Y hw)⟩
theorem OL.nil{α:Type}{e:TypeId}{p:Rp α}{E:LH}:OL e p E none 0 [] []:=⟨[],GS.nil,rfl,fun i x ws K=>by simp at K⟩
theorem GM{α:Type}{p:Rp α}{E:LH}{K:List (Lv_)}{xs:List α}(O:K.length=xs.length)(h:∀(i:Nat) x ws,xs[i]? =some x→K[i]? =some ws→p.r E ws x):∀ws∈K,ws.length=p.n:=fun ws hw=>by
 obtain⟨i,hi⟩:=List.mem_iff_getElem?.1 hw
 have U:i<xs.length:=by rw [← O];exact(List.getElem?_eq_some_iff.1 hi).1
 exact p.len (h i _ ws (List.getElem?_eq_getElem U) hi)
theorem H3{α:Type}{n:Nat}:∀{K:List (List α)},(∀ws∈K,ws.length=n)→∀{i:Nat} {ws:List α},K[i]? =some ws→∀j w,ws[j]? =some w→K.flatten[i*n+j]? =some w
 | [],_,_,_,h,_,_,_=>by simp at h
 | us::K,U,0,ws,h,j,w,O=>by
  simp at h;subst h
  have:j<us.length:=(List.getElem?_eq_some_iff.1 O).1
  simp only [List.flatten_cons,Nat.zero_mul,Nat.zero_add]
  rw [List.getElem?_append_left this];exact O
 | us::K,U,i+1,ws,h,j,w,O=>by
  simp at h
  have hu:us.length=n:=U us (by simp)
  simp only [List.flatten_cons]
  rw [List.getElem?_append_right (by rw [hu,Nat.succ_mul];omega)]
  have e:(i+1)*n+j - us.length=i*n+j:=by rw [hu,Nat.succ_mul];omega
  rw [e];exact H3 (fun ws hw=>U ws (List.mem_cons_of_mem _ hw)) h j w O
end Pal
namespace Pal
open Go Go.Conc
section
variable {P:Program}{s:St}{ρ:Operand→Value}{x y z:Operand}{d:Option Tmp}{t u ty e:TypeId}{p:String}{af:Ae_}{g:On_}{v:Value}{kd kd':IntKind}{m m':Int}{a b:Nat}
theorem Mc(c:Nat)(K:ρ x= .int .u64 (a:Int))(O:ρ y= .int .u64 (c:Int))(U:c≤64):Yl P ⟨d,.binOp .shr t x y u,ty,p,af,g⟩ ρ s (.int .u64 ((a>>>c:Nat):Int)):=by
 have h:=Yl.shr (P:=P) (s:=s) (d:=d) (t:=t) (u:=u) (ty:=ty) (p:=p) (af:=af) (g:=g) K O (by omega);have e:min (c:Int).toNat IntKind.u64.bits=c:=by simp [IntKind.bits];omega
 rw [e,Int.fdiv_eq_ediv_of_nonneg _ (Int.pow_nonneg (by decide))] at h;have e2:(a:Int) / 2 ^ c=((a>>>c:Nat):Int):=by rw [Nat.shiftRight_eq_div_pow,Int.natCast_ediv];rfl
 rw [e2] at h;exact h
def FW(m:Int):Nat:=(m % 2 ^ 64).toNat
theorem Yl.FW(ht:P.underlying t=some (.int .i64))(hu:P.underlying u=some (.int .u64))(K:ρ x=iV m):Yl P ⟨d,.convert t u x,ty,p,af,g⟩ ρ s (.int .u64 ((FW m:Nat):Int)):=by
 have h:=DO (P:=P) (s:=s) (d:=d) (ty:=ty) (p:=p) (af:=af) (g:=g) ht hu K
 have e:IntKind.u64.wrap m=((Pal.FW m:Nat):Int):=by
  unfold Pal.FW;simp only [IntKind.wrap,IntKind.bits,IntKind.signed];simp;omega
 rw [e] at h;exact h
theorem SP{r:Int}(K:ρ x=iV m)(O:ρ y=iV m')(h:AA (m+m')=some r):Yl P ⟨d,.binOp .add t x y u,ty,p,af,g⟩ ρ s (iV r):=by
 obtain⟨rfl,hb⟩:=I1 h;exact SM K O hb
theorem Db{r:Int}(K:ρ x=iV m)(O:ρ y=iV m')(h:AA (m - m')=some r):Yl P ⟨d,.binOp .sub t x y u,ty,p,af,g⟩ ρ s (iV r):=by
 obtain⟨rfl,hb⟩:=I1 h;exact Tk K O hb
theorem HH{r:Int}(K:ρ x=iV m)(O:ρ y=iV m')(h:AA (m*m')=some r):Yl P ⟨d,.binOp .mul t x y u,ty,p,af,g⟩ ρ s (iV r):=by
 obtain⟨rfl,hb⟩:=I1 h;exact Tt K O hb
theorem HJ{q:Prop} [Decidable q] (K:ρ x= .bool (decide q)):Yl P ⟨d,.unOp .not t x,ty,p,af,g⟩ ρ s (.bool (decide (¬q))):=by
 have h:=Yl.not (P:=P) (s:=s) (d:=d) (t:=t) (ty:=ty) (p:=p) (af:=af) (g:=g) K;simpa using h
theorem Ra{K:Array (Nat×Operand)}:execOp ρ ⟨d,.build t K,ty,p,af,g⟩=(do pure (Next.value (← Instr.build t (K.map fun(j,x)=>(j,ρ x))))):=by
 simp only [execOp]
theorem Yl.build{z:Value}{O:Array Field}{K:Array (Nat×Operand)}{vs:List (Nat×Value)}{places:Array (Nat×Nat)}{cells:Aw}(Y:zeroOf P t=some z)(ht:P.underlying t=some (.struct O))(Z:O.toList.mapM (fun f=>(Br P f.type).map fun n=>(f.offset,n))=some places.toList)
  (aa:K.toList.map (fun(j,x)=>(j,ρ x))=vs) (ab:Instr.fill (places[·]?) z.cells vs=some cells):Yl P ⟨d,.build t K,ty,p,af,g⟩ ρ s (.agg cells):=by
 refine El Ra ?_;unfold Instr.build;refine Ay (x:=zeroValue t) _ (FG Y ?_);refine Ay _ _ (CY ht ?_);simp only;have key:∀(l:List Field) (acc:List (Nat×Nat)) {Q:List (Nat×Nat)→St→Prop} {X:Halt→St→Prop} (K:List (Nat×Nat)),l.mapM (fun f=>(Br P f.type).map fun n=>(f.offset,n))=some K→Q (acc.reverse++K) s→lp P (List.mapM.loop (m:=Sem) (fun f=>do pure (f.offset,← Go.sizeOf f.type)) l acc) s Q X:=by
  intro l
  induction l with
  | nil=>
   intro acc Q X K h k;simp at h;subst h;simp only [List.append_nil] at k;exact k
  | cons f l ac=>
   intro acc Q X K h k;simp only [List.mapM_cons,bind] at h;cases U:Br P f.type with
   | none=>rw [U] at h;simp at h
   | some n=>
    rw [U] at h;simp only [Option.map_some,Option.bind_some] at h;obtain⟨ae,ag,V⟩:=bind_some h;simp at V;subst V;have:=ac ((f.offset,n)::acc) (Q:=Q) (X:=X) ae ag (by simpa using k);simp only [List.mapM.loop];exact Ay _ _ (Ay (x:=Go.sizeOf f.type) _ (En U this))
 have e:(K.map fun(j,x)=>(j,ρ x)).toList=vs:=by rw [← aa,Array.toList_map]
 refine Ay _ _ ?_;rw [Array.mapM_eq_mapM_toList];refine Ay (x:=List.mapM.loop (m:=Sem) (fun f=>do pure (f.offset,← Go.sizeOf f.type)) O.toList []) (f:=fun r=>pure r.toArray) (key O.toList [] places.toList Z ?_)
 simp only [List.reverse_nil,List.nil_append,lp,pure];rw [e,ab];exact⟨rfl,rfl⟩
end
end Pal
namespace Pal
open Go Go.Conc
section
variable {P:Program}{J:Judge P}{Q:Gs_}{b:Frame}{n:Nat}{ds:Ld_}{ops:Ao_}{k:Li_}{cs:Lf_}{L:Env}{s:St}{E E' H:LH}{S:List Seg}
variable {d:Option Tmp}{x y:Operand}{t u ty e:TypeId}{p:String}{af:Ae_}{g:On_}{v:Value}{i:Nat}{rest:List Nat}{kd:IntKind}
theorem JS.box(O:ops[i]? =some ⟨d,.box e x,ty,p,af,g⟩)(hw:A5 L ops ⟨d,.box e x,ty,p,af,g⟩=some true)(U:Ct b n ⟨d,.box e x,ty,p,af,g⟩=true)(V:Ar E H S)(Y:ev L x=some v)
  (h:∀r,Ar E H (S++ [[(r,.cells v.cells e (0,0))]])→JL J Q b n (Ax L d (.pointer (some ⟨r,0,none⟩))) ds (.inRegion ops rest::k) cs (Am E H (S++ [[(r,.cells v.cells e (0,0))]]))):
  JL J Q b n L ds (.inRegion ops (i::rest)::k) cs (Am E H S):=
 JL.box O hw U V Y fun r K=>by rw [(Ee K).1];exact h r (Ee K).2
theorem JS.alloc{z:Value}(O:ops[i]? =some ⟨d,.alloc e,ty,p,af,g⟩)(hw:A5 L ops ⟨d,.alloc e,ty,p,af,g⟩=some true)(U:Ct b n ⟨d,.alloc e,ty,p,af,g⟩=true)(V:Ar E H S)(Y:zeroOf P e=some z)
  (h:∀r,Ar E H (S++ [[(r,.cells z.cells e (0,0))]])→JL J Q b n (Ax L d (.pointer (some ⟨r,0,none⟩))) ds (.inRegion ops rest::k) cs (Am E H (S++ [[(r,.cells z.cells e (0,0))]]))):
  JL J Q b n L ds (.inRegion ops (i::rest)::k) cs (Am E H S):=
 JL.alloc O hw U V Y fun r K=>by rw [(Ee K).1];exact h r (Ee K).2
theorem JS.store{bk off:Nat}{c:Aw}(j:Nat)(U:ops[i]? =some ⟨d,.store t x y,ty,p,af,g⟩)(hw:A5 L ops ⟨d,.store t x y,ty,p,af,g⟩=some true)(V:Ct b n ⟨d,.store t x y,ty,p,af,g⟩=true)(Y:Ar E H S)
  (Z:ev L x=some (.pointer (some ⟨bk,off,none⟩))) (aa:ev L y=some v) (ab:Br P t=some v.cells.size) (ac:∀u∈v.cells.toList,AL u=true) (K:S[j]? =some [(bk,.cells c e (0,0))]) (hle:off+v.cells.size≤c.size)
  (h:Ar E H (S.set j [(bk,.cells (AI c off v.cells.toList) e (0,0))])→JL J Q b n (Ax L d undef) ds (.inRegion ops rest::k) cs (Am E H (S.set j [(bk,.cells (AI c off v.cells.toList) e (0,0))]))):
  JL J Q b n L ds (.inRegion ops (i::rest)::k) cs (Am E H S):=by
 obtain⟨ae,ag⟩:=EL Y K;rw [ae];refine JL.store (S.set j []).flatten.length U hw V ag Z aa ab ac (c:=c) (e:=e) (by simp) hle fun O=>?_;have ah:((S.set j []).flatten++ [(bk,Obj.cells c e (0,0))]).set (S.set j []).flatten.length (bk,.cells (AI c off v.cells.toList) e (0,0))=(S.set j []).flatten++ [(bk,.cells (AI c off v.cells.toList) e (0,0))]:=Gq _ _ _ _;rw [ah] at O ⊢;obtain⟨ai,aj⟩:=F9 K O;rw [ai];exact h aj
theorem JS.drop{todo:Li_}{seg:Seg}(j:Nat)(V:Ar E H S)(K:S[j]? =some seg)(h:Ar E H (S.set j [])→JL J Q b n L ds todo cs (Am E H (S.set j []))):JL J Q b n L ds todo cs (Am E H S):=by
 obtain⟨Y,O⟩:=EL V K;rw [Y];have Z:Nd E H ((S.set j []).flatten++ []):=by rw [List.append_nil];exact Hh.Nd.left O
 obtain⟨U,aa⟩:=F9 (seg':= []) K Z;refine JL.drop (S.set j []).flatten (fun q ab=>List.mem_iff_getElem?.1 (List.mem_append_left _ ab)) O ?_;have ac:(S.set j []).flatten++ []=(S.set j []).flatten:=List.append_nil _;rw [ac] at U;rw [U];exact h aa
theorem Cn{todo:Li_}{bk:Nat}{c:Aw}{f:Nat×Nat}(j:Nat)(O:Ar E H S)(U:S[j]? =some [(bk,.cells c e f)])
  (h:∀E',Le E E'→At E' bk 0 c.toList→Ar E' H (S.set j [])→JL J Q b n L ds todo cs (Am E' H (S.set j []))):JL J Q b n L ds todo cs (Am E H S):=by
 obtain⟨V,Y⟩:=EL O U;rw [V];have Z:((S.set j []).flatten++ [(bk,Obj.cells c e f)])[(S.set j []).flatten.length]? =some (bk,Obj.cells c e f):=by simp
 refine JL.freeze (S.set j []).flatten.length Y Z fun E' hle aa K=>?_;have ab:((S.set j []).flatten++ [(bk,Obj.cells c e f)]).eraseIdx (S.set j []).flatten.length=(S.set j []).flatten:=by rw [List.eraseIdx_append_of_length_le (Nat.le_refl _)];simp
 rw [ab] at K ⊢;exact h E' hle ⟨_,_,_,aa,fun i w hi=>by simpa using hi⟩ K
theorem BA{α:Type}{pp:Rp α}{todo:Li_}{a:Option Addr}{c:Nat}{seg:Seg}{xs:List α}(j:Nat)(hg:OL e pp E a c seg xs)(ac:Ar E H S)(ae:S[j]? =some seg)
  (h:∀E',Le E E'→Aq pp E' a c xs→Ar E' H (S.set j [])→JL J Q b n L ds todo cs (Am E' H (S.set j []))):JL J Q b n L ds todo cs (Am E H S):=by
 obtain⟨Y,hg,Z,aa⟩:=hg;have ag:∀ad:Addr,a=some ad→ad.spot=none:=fun ad K=>by
  rcases hg with⟨O,_⟩ | ⟨bk,f,O,_⟩
  ·rw [O] at K;cases K
  ·rw [O] at K;cases K;rfl
 obtain⟨O,ah⟩:=EL ac ae;rw [O];refine QL hg ah fun E' hle ai aj=>h E' hle ?_ aj;obtain⟨ak,al,U,am,ar,V⟩:=ai;obtain⟨rfl,-,rfl⟩:a=ak∧xs.length=xs.length∧c=al:=by
  simp only [Value.slice.injEq] at U;exact⟨U.1,rfl,U.2.2⟩
 refine⟨am,?_⟩;rcases V with V | ⟨bk,off,f,an,fr,ao,g2,ap⟩
 ·exact .inl ⟨List.eq_nil_of_length_eq_zero V,fun ad K=> .inl (ag ad K)⟩
 ·refine .inr ⟨bk,off,ao,fun i x ab=>?_⟩;have aq:i<Y.length:=by rw [Z];exact(List.getElem?_eq_some_iff.1 ab).1
  have hw:=List.getElem?_eq_getElem aq;refine⟨Y[i],pp.Ad hle (aa i x _ ab hw),f,an,fr,g2,fun m w hm=>?_⟩;rw [Nat.add_assoc];exact ap _ w (H3 (GM Z aa) hw m w hm)
theorem QJ{α:Type}{pp:Rp α}{O:List (Lv_)}{xs:List α}{x:α}{ws:Lv_}(U:O.length=xs.length)(h:∀(i:Nat) x ws,xs[i]? =some x→O[i]? =some ws→pp.r E ws x)(V:pp.r E ws x):
  ∀(i:Nat) y us,(xs++ [x])[i]? =some y→(O++ [ws])[i]? =some us→pp.r E us y:=by
 intro i y us K hu;rcases Nat.lt_or_ge i xs.length with hi | hi
 ·rw [List.getElem?_append_left hi] at K;rw [List.getElem?_append_left (by omega)] at hu;exact h i y us K hu
 ·rw [List.getElem?_append_right hi] at K;rw [List.getElem?_append_right (by omega),U] at hu;cases hm:i - xs.length with
  | zero=>rw [hm] at K hu;simp at K hu;subst K hu;exact V
  | succ m=>rw [hm] at K;simp at K
theorem Nm{α:Type}{pp:Rp α}{t1 t2:TypeId}{U c:Nat}{a:Option Addr}{seg:Seg}{xs:List α}{xv:α}{ab:Nat}{d1:Tmp}{ats:Array TypeId}{V:TypeId}{Y:String}{Z:Ae_}{g':On_}{z:Value}(j:Nat)
  (ag:ops[i]? =some ⟨some d1,.buildSlice t2 1 #[(0,y)],V,Y,Z,g'⟩) (hw:A5 L ops ⟨some d1,.buildSlice t2 1 #[(0,y)],V,Y,Z,g'⟩=some true) (ah:Ct b n ⟨some d1,.buildSlice t2 1 #[(0,y)],V,Y,Z,g'⟩=true)
  (ai:ops[ab]? =some ⟨d,.call ⟨.builtin .append,#[x,.tmp d1],ats⟩,ty,p,af,g⟩) (aj:∀w,A5 (Ax L (some d1) w) ops ⟨d,.call ⟨.builtin .append,#[x,.tmp d1],ats⟩,ty,p,af,g⟩=some true) (ak:Ct b n ⟨d,.call ⟨.builtin .append,#[x,.tmp d1],ats⟩,ty,p,af,g⟩=true)
  (al:∀w,ev (Ax L (some d1) w) x=some (.slice a xs.length c)) (am:ev L y=some v) (an:ats[0]? =some t) (ao:ats[1]? =some t1) (ht:P.underlying t=some (.slice e)) (ap:P.underlying t1=some (.slice e)) (aq:P.underlying t2=some (.slice e)) (ar:Br P e=some pp.n) (hb:D6 P e=some U) (au:zeroOf P e=some z) (av:z.cells.size=pp.n)
  (aw:0<U) (ay:U≤64) (az:0<pp.n) (aA:pp.n≤64) (aB:xs.length+1≤2 ^ 40) (hg:OL e pp E a c seg xs) (aa:pp.r E v.cells.toList xv) (aC:Ar E H S) (ac:S[j]? =some seg)
  (h:∀w K O seg',OL e pp E K O seg' (xs++ [xv])→Ar E H (S.set j seg')→JL J Q b n (Ax (Ax L (some d1) w) d (.slice K (xs++ [xv]).length O)) ds (.inRegion ops rest::k) cs (Am E H (S.set j seg'))):
  JL J Q b n L ds (.inRegion ops (i::ab::rest)::k) cs (Am E H S):=by
 obtain⟨aD,hg,ae,aE⟩:=hg;obtain⟨aF,aG⟩:=EL aC ac;rw [aF];have aH:v.cells.size=pp.n:=by simpa using pp.len aa
 refine Q4 ag hw ah ai aj ak al am an ao ht ap aq ar hb au av aw ay aH az aA aB (pp.one aa) hg aG fun w K O aI aJ aK=>?_;obtain⟨aL,aM⟩:=F9 ac aK;rw [aL];have hlen:(xs++ [xv]).length=xs.length+1:=by simp
 have:=h w K O aI ⟨aD++ [v.cells.toList],by rw [hlen,List.flatten_append];simpa using aJ,by simp [ae],QJ ae aE aa⟩ aM;rw [hlen] at this;exact this
theorem To{α:Type}{pp:Rp α}{a:Option Addr}{c:Nat}{xs:List α}{xv:α}{m:Int}(O:Aq pp E a c xs)(hm:ix xs m=some xv)
  (U:ops[i]? =some ⟨d,.indexAddr t x y,ty,p,af,g⟩) (hw:A5 L ops ⟨d,.indexAddr t x y,ty,p,af,g⟩=some true) (V:Ct b n ⟨d,.indexAddr t x y,ty,p,af,g⟩=true)
  (Y:ev L x=some (.slice a xs.length c)) (Z:ev L y=some (.int kd m)) (ht:P.underlying t=some (.slice e)) (aa:Br P e=some pp.n)
  (h:∀bk o ws,pp.r E ws xv→At E bk o ws→JL J Q b n (Ax L d (.pointer (some ⟨bk,o,none⟩))) ds (.inRegion ops rest::k) cs (Am E H S)):
  JL J Q b n L ds (.inRegion ops (i::rest)::k) cs (Am E H S):=by
 obtain⟨m,rfl,hm⟩:=Gt hm;have ab:m<xs.length:=(List.getElem?_eq_some_iff.1 hm).1;obtain⟨ah,⟨rfl,_⟩ | ⟨bk,off,rfl,ac⟩⟩:=O
 ·simp at ab
 obtain⟨ws,ae,ag⟩:=ac m xv hm;refine AY (v:= .pointer (some ⟨bk,off+m*pp.n,none⟩)) U hw V (fun ρ K=>?_) (h bk _ ws ae ag);have:=Kj (P:=P) (s:=Am E H S) (d:=d) (ty:=ty) (p:=p) (af:=af) (g:=g) ht aa (K x _ Y) (K y _ Z) ⟨by omega,by omega⟩;rw [Dq rfl] at this;simpa using this
theorem At.Iu{bk o j:Nat}{ws:Lv_}{w:Value}(h:At E bk o ws)(K:ws[j]? =some w):(Am E H S).cell? ⟨bk,o+j,none⟩=some w:=h.cell K
theorem At.Pb{bk o:Nat}{ws:Lv_}(h:At E bk o ws):∀j v,ws[j]? =some v→(Am E H S).cell? (Addr.add ⟨bk,o,none⟩ j)=some v:=h.cells
theorem Cc{todo:Li_}(I:Env→St→Prop){c:Code}(K:∀L s,I L s→JL J Q b n L ds todo cs s)(h:(∀L s,I L s→JL J Q b n L ds todo cs s)→JL J Q b n L ds (.code c::todo) cs s):JL J Q b n L ds (.code c::todo) cs s:=h K
theorem EK{K:List Nat}{todo:Li_}(l:List Nat)(I:Env→St→Prop)(O:∀L s,I L s→JL J Q b n L ds (.inRegion ops l::todo) cs s)(h:(∀L s,I L s→JL J Q b n L ds (.inRegion ops l::todo) cs s)→JL J Q b n L ds (.inRegion ops K::todo) cs s):JL J Q b n L ds (.inRegion ops K::todo) cs s:=h O
theorem Oh{K A:Type}{c:Code}{body:K→Option (Bz K A)}{f:Nat}{O:K}{a:A}(U:iter body f O=some a)(I:Env→St→K→Prop)(Y:I L s O)
  (round:∀L s x,I L s x→(∀V,body x=some (.done V)→V=a)→(∃st,body x=some st)→(∀L' s' x',I L' s' x'→body x=some (.more x')→JL J Q b n L' ds (.inLoop c::k) cs s')→JL J Q b n L ds (.code c:: .inLoop c::k) cs s):
  JL J Q b n L ds (.code (.loop c)::k) cs s:=by
 refine HB ?_
 induction f generalizing L s O with
 | zero=>cases U
 | succ f Z=>
  refine round L s O Y (fun V h=>NG U h) (Nv U) fun L' s' x' aa hb=>JL.again (Z (Nn U hb) aa)
def AT(J:Judge P)(f:FuncId)(args:Lv_)(E:LH)(B:Seg)(R:Value→LH→Seg→Prop):Prop:=
 ∀H,Nd E H B→Dt J f args.toArray (mk E H B) (fun v s'=>∃E' B',Le E E'∧R v E' B'∧Nd E' H B'∧s'=mk E' H B')
theorem AT.enter{f:FuncId}{fn:Func}{c:Code}{vs:Lv_}{B:Seg}{R:Value→LH→Seg→Prop}(O:P.funcs[f]? =some fn)(hb:fn.body=some c)(U:vs.length≤fn.ntmps)
  (h:∀(Q:Gs_) (K:Frame) (cs:Lf_) (H:LH),Ar E H [B]→(∀v E' S' B',Le E E'→S'.flatten=B'→R v E' B'→Ar E' H S'→J.ok Q (G (K.finish v) cs) (Am E' H S'))→JL J Q (base f) fn.ntmps (EO 0 vs) [] [.code c] (K::cs) (Am E H [B])):AT J f vs E B R:=fun H V=>
 Dt.enter O hb U fun Q K cs Y=>by
  have Z:mk E H B=Am E H [B]:=by unfold Am;simp
  rw [Z];exact h Q K cs H (by unfold Ar;simpa using V) fun v E' S' B' hle aa ab ac=>by
   subst aa;exact Y v _ ⟨E',S'.flatten,hle,ab,ac,rfl⟩
theorem AT.Ad{f:FuncId}{vs:Lv_}{B:Seg}{R K:Value→LH→Seg→Prop}(h:AT J f vs E B R)(U:∀v E' B',Le E E'→R v E' B'→K v E' B'):AT J f vs E B K:=fun H V=>
 (h H V).Ad fun v s' ⟨E',B',O,Y,Z,aa⟩=>⟨E',B',O,U v E' B' O Y,Z,aa⟩
theorem EY{H:LH}:∀{A B:List (Nat×Obj)},A9 (A++B) H=A9 A (A9 B H)
 | [],_=>rfl
 | (c,o)::A,B=>by
  funext x
  simp only [List.cons_append,A9]
  split
  ·rfl
  ·rw [EY]
theorem I6{H:LH}{x:Nat}:∀{B:List (Nat×Obj)},(∀p∈B,p.1≠x)→A9 B H x=H x
 | [],_=>rfl
 | (c,u)::B,K=>by
  have O:x≠c:=fun e=>K (c,u) (by simp) e.symm
  simp only [A9,if_neg O]
  exact I6 fun p U=>K p (List.mem_cons_of_mem _ U)
theorem Nd.front{A B:List (Nat×Obj)}(h:Nd E H (A++B)):Nd E (A9 B H) A:=by
 rw [Nd.iff] at h ⊢;obtain⟨K,U⟩:=h;rw [List.map_append,List.nodup_append] at K;refine⟨K.1,fun q O=>⟨(U q (List.mem_append_left _ O)).1,?_⟩⟩;rw [I6 fun r V e=>K.2.2 q.1 (List.mem_map_of_mem O) r.1 (List.mem_map_of_mem V) e.symm];exact(U q (List.mem_append_left _ O)).2
theorem Nd.glue{A B:List (Nat×Obj)}(h:Nd E (A9 B H) A)(U:Nd E H B):Nd E H (A++B):=by
 have V:=U;rw [Nd.iff] at h U ⊢;rw [List.map_append,List.nodup_append];have key:∀q∈A,∀r∈B,q.1≠r.1:=fun q K r O e=>by
  have:=(h.2 q K).2;rw [e] at this;obtain⟨i,hi⟩:=V.mem (b:=r.1) (o:=r.2) O;rw [GO V hi] at this;cases this
 refine⟨⟨h.1,U.1,fun x Y y Z e=>?_⟩,fun q K=>?_⟩
 ·obtain⟨q,K,rfl⟩:=List.mem_map.1 Y;obtain⟨r,O,rfl⟩:=List.mem_map.1 Z;exact key q K r O e
 ·rcases List.mem_append.1 K with K | K
  ·refine⟨(h.2 q K).1,?_⟩;have:=(h.2 q K).2
   rwa [I6 fun r O e=>key q K r O e.symm] at this
  ·exact U.2 q K
theorem L4{f:FuncId}{args:Array Operand}{ats:Array TypeId}{vs:Lv_}{seg:Seg}{R:Value→LH→Seg→Prop}(j:Nat)
  (aa:AT J f vs E seg R) (ab:ops[i]? =some ⟨d,.call ⟨.value (.func f),args,ats⟩,ty,p,af,g⟩) (hw:A5 L ops ⟨d,.call ⟨.value (.func f),args,ats⟩,ty,p,af,g⟩=some true) (ac:((b.kind != .early)&&Bs n d)=true) (hb:Dj P f=true)
  (ae:evs L args.toList=some vs) (K:Ar E H S) (O:S[j]? =some seg) (ag:∀v E' seg',Le E E'→R v E' seg'→Ar E' H (S.set j seg')→JL J Q b n (Ax L d v) ds (.inRegion ops rest::k) cs (Am E' H (S.set j seg'))):
  JL J Q b n L ds (.inRegion ops (i::rest)::k) cs (Am E H S):=by
 have U:S.flatten.Perm (seg++(S.set j []).flatten):=(DG (seg':=seg) O).1.trans List.perm_append_comm;have V:Nd E H (seg++(S.set j []).flatten):=Nd.perm K U;have ah:Am E H S=mk E (A9 (S.set j []).flatten H) seg:=by
  rw [show Am E H S=mk E H S.flatten from rfl,Ep K U];unfold mk;rw [EY]
 rw [ah];refine Si ab hw ac hb ae (aa _ (Nd.front V)) ?_;rintro v s' ⟨E',B',hle,ai,aj,rfl⟩;have e2:mk E' (A9 (S.set j []).flatten H) B'=mk E' H (B'++(S.set j []).flatten):=by unfold mk;rw [EY]
 have ak:Nd E H (S.set j []).flatten:=by
  have:=V;rw [Nd.iff] at this ⊢;rw [List.map_append,List.nodup_append] at this;exact⟨this.1.2.1,fun q al=>this.2 q (List.mem_append_right _ al)⟩
 refine OS rfl fun⟨w,am⟩=>?_;have an:Nd E' H (S.set j []).flatten:=ak.grow fun x ao=>by
  have ap:=am.d x ao;have aq:A9 B' (A9 (S.set j []).flatten H) x=none:=ap;exact(F2 aq).1
 have Y:Nd E' H (B'++(S.set j []).flatten):=Nd.glue aj an;rw [e2];have Z:(B'++(S.set j []).flatten).Perm (S.set j B').flatten:=List.perm_append_comm.trans (DG O).2.symm;rw [Ep Y Z];exact ag v E' B' hle ai (Nd.perm Y Z)
theorem JS.call{f:FuncId}{args:Array Operand}{ats:Array TypeId}{vs:Lv_}{R:Value→LH→Seg→Prop}
  (U:AT J f vs E [] R) (V:ops[i]? =some ⟨d,.call ⟨.value (.func f),args,ats⟩,ty,p,af,g⟩) (hw:A5 L ops ⟨d,.call ⟨.value (.func f),args,ats⟩,ty,p,af,g⟩=some true) (Y:((b.kind != .early)&&Bs n d)=true) (hb:Dj P f=true)
  (Z:evs L args.toList=some vs) (K:Ar E H S) (aa:∀v E' seg',Le E E'→R v E' seg'→Ar E' H (S++ [seg'])→JL J Q b n (Ax L d v) ds (.inRegion ops rest::k) cs (Am E' H (S++ [seg']))):
  JL J Q b n L ds (.inRegion ops (i::rest)::k) cs (Am E H S):=by
 have ab:Am E H S=Am E H (S++ [[]]):=by unfold Am;simp
 rw [ab];refine L4 S.length U V hw Y hb Z (by unfold Ar at K ⊢;rw [F4,List.append_nil];exact K) (by simp) fun v E' seg' hle ac O=>?_;have e2:(S++ [[]]).set S.length seg'=S++ [seg']:=Gq _ _ _ _;rw [e2] at O ⊢;exact aa v E' seg' hle ac O
theorem Da{todo:Li_}{S':List Seg}(K:S'.flatten=S.flatten)(O:Ar E H S)(h:Ar E H S'→JL J Q b n L ds todo cs (Am E H S')):JL J Q b n L ds todo cs (Am E H S):=by
 unfold Am Ar at*;rw [K] at h;exact h O
end
end Pal
namespace Pal
open Go Go.Conc
def Ld(P:Program)(t:TypeId)(a:Addr)(s:St)(v:Value):Prop:=lp P (loadVar t a) s (fun u s'=>u=v∧s'=s) (fun _ _=>False)
theorem Ld.many{P:Program}{t:TypeId}{a:Addr}{s:St}{vs:Lv_}(ht:CM P t=some true)(K:Br P t=some vs.length)(h:∀j v,vs[j]? =some v→s.cell? (a.add j)=some v):Ld P t a s (.agg vs.toArray):=M5 ht K h ⟨rfl,rfl⟩
def RV(P:Program)(L:Env)(s:St):List ResultVar→Lv_→Prop
 | [],[]=>True
 | .tmp t::rs,v::vs=>look L t=some v∧RV P L s rs vs
 | .cell a t::rs,v::vs=>(∃ad,look L a=some (.pointer (some ad))∧Ld P t ad s v)∧RV P L s rs vs
 | _,_=>False
def Kw:Lv_→Value
 | [v]=>v
 | vs=> .tuple vs.toArray
theorem QW(vs:Lv_):(if h:vs.toArray.size=1 then vs.toArray[0] else Value.tuple vs.toArray)=Kw vs:=by
 match vs with
 | []=>rfl
 | [v]=>rfl
 | a::b::c=>simp [Kw]
theorem BP.list{P:Program}{f:FuncId}{fn:Func}{n:Nat}{L:Env}{s:St}{rs:List ResultVar}{vs:Lv_}(Y:P.funcs[f]? =some fn)(Z:fn.results.toList=rs)(h:RV P L s rs vs):BP P f L n s (Kw vs):=by
 refine⟨fn,Y,fun T U=>?_⟩;unfold results;rw [Array.mapM_eq_mapM_toList,Z];have key:∀(rs:List ResultVar) (acc vs:Lv_) {Q:Lv_→St→Prop} {X:Halt→St→Prop},RV P L s rs vs→Q (acc.reverse++vs) s→lp P (List.mapM.loop (m:=Sem) (fun r=>match r with
   | .tmp t=>pure (T.getD t undef)
   | .cell a t=>do loadVar t (← asAddr (T.getD a undef))) rs acc) s Q X:=by
  intro rs
  induction rs with
  | nil=>
   intro acc vs Q X h k;cases vs with
   | nil=>simp only [List.append_nil] at k;exact k
   | cons v vs=>cases h
  | cons r rs V=>
   intro acc vs Q X h k;cases vs with
   | nil=>cases r <;> cases h
   | cons v vs=>
    cases r with
    | tmp t=>
     obtain⟨K,O⟩:=h;have:=U.at_ t v K;simp only [List.mapM.loop];rw [this];exact V (v::acc) vs O (by simpa using k)
    | cell a t=>
     obtain⟨⟨ad,K,aa⟩,O⟩:=h;have:=U.at_ a _ K;simp only [List.mapM.loop];rw [this];refine Ay _ _ (CO _ (show lp P (loadVar t ad) s _ _ from aa) ?_ (fun _ _ h=>h.elim));rintro u s' ⟨rfl,rfl⟩;exact V (u::acc) vs O (by simpa using k)
 refine Ay _ _ (Ay (x:=List.mapM.loop (m:=Sem) _ rs []) (f:=fun r=>pure r.toArray) ?_);refine key rs [] vs h ?_;simp only [List.reverse_nil,List.nil_append,lp,pure];exact⟨QW vs,trivial⟩
section
variable {P:Program}{J:Judge P}{Q:Gs_}{g:Goroutine}{E H:LH}{S:List Seg}
theorem GQ{seg:Seg}(j:Nat)(Y:Ar E H S)(U:S[j]? =some seg)(h:Ar E H (S.set j [])→J.ok Q g (Am E H (S.set j []))):J.ok Q g (Am E H S):=by
 obtain⟨Z,K⟩:=EL Y U;have aa:Nd E H ((S.set j []).flatten++ []):=by rw [List.append_nil];exact Hh.Nd.left K
 obtain⟨ag,ab⟩:=F9 (seg':= []) U aa;refine J.ghost (s₀:=Am E H (S.set j [])) ⟨fun _ _ h=>h,fun x o ac=>?_,fun _ _ h=> .inl h,rfl⟩ (h ab);have V:A9 (S.set j []).flatten H x=some o:=ac;show(Am E H S).H x=some o;rw [Z];show A9 ((S.set j []).flatten++seg) H x=some o;rw [show A9 ((S.set j []).flatten++seg) H=A9 (seg++(S.set j []).flatten) H from IZ K List.perm_append_comm,EY];by_cases hm:∃p∈seg,p.1=x
 ·exfalso;obtain⟨p,O,e⟩:=hm;have ae:=Nd.front (Nd.perm K List.perm_append_comm);have:=((Nd.iff.1 ae).2 p O).2;rw [e,V] at this;cases this
 ·rw [I6 fun p O e=>hm ⟨p,O,e⟩];exact V
end
section
variable {P:Program}{J:Judge P}{Q:Gs_}{b:Frame}{n:Nat}{ds:Ld_}{ops:Ao_}{k:Li_}{cs:Lf_}{L:Env}{s:St}{E E' H:LH}{S:List Seg}
variable {d:Option Tmp}{x y:Operand}{t u ty e:TypeId}{p:String}{af:Ae_}{g:On_}{v:Value}{i:Nat}{rest:List Nat}{kd:IntKind}
theorem NF{ρ:Operand→Value}{len:Nat}{K:Array (Nat×Operand)}:execOp ρ ⟨d,.buildSlice t len K,ty,p,af,g⟩=(do pure (Next.value (← Instr.buildSlice t len (K.map fun(j,x)=>(j,ρ x))))):=by
 simp only [execOp]
theorem Q8(v:Aw)(off:Nat)(c:Aw):v.zipIdx.foldl (fun cs (x,j)=>cs.setIfInBounds (off+j) x) c=AI c off v.toList:=by
 rw [← Array.foldl_toList,Array.toList_zipIdx];have key:∀(l:Lv_) (st:Nat) (c:Aw),List.foldl (fun cs (p:Value×Nat)=>cs.setIfInBounds (off+p.2) p.1) c (l.zipIdx st)=AI c (off+st) l:=by
  intro l
  induction l with
  | nil=>intro st c;rfl
  | cons x l K=>intro st c;simp only [List.zipIdx_cons,List.foldl_cons,AI];rw [K];rfl
 exact key v.toList 0 c
def Iv(place:Nat→Option (Nat×Nat))(cells:Aw):List (Nat×Value)→Option (Aw)
 | []=>some cells
 | (i,v)::rest=>match place i with
  | none=>none
  | some (off,size)=>if v.cells.size=size∧off+v.cells.size≤cells.size then Iv place (AI cells off v.cells.toList) rest else none
theorem fill_eq{place:Nat→Option (Nat×Nat)}:∀{vs:List (Nat×Value)} {cells:Aw},Instr.fill place cells vs=Iv place cells vs
 | [],_=>rfl
 | (i,v)::rest,cells=>by
  simp only [Instr.fill,Iv]
  cases place i with
  | none=>rfl
  | some q=>
   obtain⟨off,size⟩:=q
   simp only
   by_cases h:v.cells.size=size∧off+v.cells.size≤cells.size
   ·rw [if_pos h,if_neg (by simp only [Bool.or_eq_true,decide_eq_true_eq,ne_eq];omega),fill_eq,Q8]
   ·rw [if_neg h,if_pos (by simp only [Bool.or_eq_true,decide_eq_true_eq,ne_eq];omega)]
theorem N3{n:Nat}:∀(vs:Lv_) (st:Nat) (cells:Aw),(∀v∈vs,v.cells.size=n)→cells.size=(st+vs.length)*n→
  ∃O,Iv (fun i=>some (i*n,n)) cells ((vs.zipIdx st).map fun q=>(q.2,q.1))=some O∧O.toList=cells.toList.take (st*n)++(vs.map (·.cells.toList)).flatten
 | [],st,cells,_,hs=>⟨cells,rfl,by simp only [List.length_nil,Nat.add_zero] at hs;simp [← hs,List.take_of_length_le]⟩
 | v::vs,st,cells,U,hs=>by
  have K:=U v (by simp)
  have hle:st*n+n≤cells.size:=by
   rw [hs,List.length_cons];have:(st+1)*n≤(st+(vs.length+1))*n:=Nat.mul_le_mul_right _ (by omega);rw [Nat.succ_mul] at this;exact this
  obtain⟨V,Y,Z⟩:=N3 vs (st+1) (AI cells (st*n) v.cells.toList) (fun u hu=>U u (List.mem_cons_of_mem _ hu)) (by rw [LM,hs,List.length_cons];congr 1;omega);refine⟨V,?_,?_⟩
  ·simp only [List.zipIdx_cons,List.map_cons,Iv];rw [if_pos ⟨K,by omega⟩];exact Y
  ·rw [Z,Nat.succ_mul];have:=MY cells (st*n) v.cells.toList (by simp [K];omega);rw [show v.cells.toList.length=n by simp [K]] at this;rw [this];simp
def Hu{α:Type}(pp:Rp α)(E:LH):List α→Lv_→Prop
 | [],[]=>True
 | x::xs,v::vs=>pp.r E v.cells.toList x∧Hu pp E xs vs
 | _,_=>False
theorem Hu.at{E:LH}{α:Type}{pp:Rp α}:∀{xs:List α} {vs:Lv_},Hu pp E xs vs→∀(i:Nat) x v,xs[i]? =some x→vs[i]? =some v→pp.r E v.cells.toList x
 | [],_,_,_,_,_,h,_=>by simp at h
 | _::_,[],h,_,_,_,_,_=>h.elim
 | x::xs,v::vs,h,0,y,u,K,hu=>by simp at K hu;subst K hu;exact h.1
 | x::xs,v::vs,h,i+1,y,u,K,hu=>Hu.at h.2 i y u (by simpa using K) (by simpa using hu)
theorem Mq{E0:LH}{ρ:Operand→Value}{K:Next→St→Prop}(aj:DJ L ρ){α:Type}{pp:Rp α}{len:Nat}{Y:Array (Nat×Operand)}(vs:Lv_){z:Value}(xs:List α)
  (ht:P.underlying t=some (.slice e)) (ak:Br P e=some pp.n) (al:zeroOf P e=some z) (am:decide (0<len*pp.n∧len*pp.n≤2 ^ 24)=true)
  (an:Y.toList.mapM (fun q=>(ev L q.2).map fun v=>(q.1,v))=some ((vs.zipIdx 0).map fun q=>(q.2,q.1)))
  (U:vs.length=len) (V:xs.length=len) (ao:Hu pp E0 xs vs) (ap:Ar E H S)
  (h:∀r seg,OL e pp E0 (some ⟨r,0,none⟩) len seg xs→Ar E H (S++ [seg])→K (.value (.slice (some ⟨r,0,none⟩) xs.length len)) (Am E H (S++ [seg]))):
  lp P (execOp ρ ⟨d,.buildSlice t len Y,ty,p,af,g⟩) (Am E H S) K (fun _ _=>False):=by
 have ac:=ao.at;have aq:(Y.map fun(j,x)=>(j,ρ x)).toList=(vs.zipIdx 0).map fun q=>(q.2,q.1):=by
  have key:∀(l:List (Nat×Operand)) (vs:List (Nat×Value)),l.mapM (fun q=>(ev L q.2).map fun v=>(q.1,v))=some vs→l.map (fun(j,x)=>(j,ρ x))=vs:=by
   intro l
   induction l with
   | nil=>intro vs h;simp at h;subst h;rfl
   | cons q l Z=>
    intro vs h;simp only [List.mapM_cons,bind] at h;cases aa:ev L q.2 with
    | none=>rw [aa] at h;simp at h
    | some w=>
     rw [aa] at h;simp only [Option.map_some,Option.bind_some] at h;obtain⟨ar,au,ae⟩:=bind_some h;simp at ae;subst ae;simp [Z ar au,aj _ _ aa]
  rw [Array.toList_map];exact key _ _ an
 have ag:∀v∈vs,v.cells.size=pp.n:=fun v O=>by
  obtain⟨i,hi⟩:=List.mem_iff_getElem?.1 O;have av:i<xs.length:=by rw [V,← U];exact(List.getElem?_eq_some_iff.1 hi).1
  simpa using pp.len (ac i _ v (List.getElem?_eq_getElem av) hi)
 rw [NF];refine Ay _ _ ?_;unfold Instr.buildSlice;refine Ay _ _ (CY ht ?_);refine Ay _ _ (En ak ?_);have az:=of_decide_eq_true am;rw [if_neg (by omega),if_neg (by omega)];refine Ay (x:=zeroValue e) _ (FG al ?_);rw [GI,aq];obtain⟨cells,aw,ab⟩:=N3 vs 0 ((Array.range (len*pp.n)).map (z.cells[· % z.cells.size]!)) ag (by simp [U]);simp only [fill_eq,aw];simp only [Nat.zero_mul,List.take_zero,List.nil_append] at ab;refine Ay _ _ (GL ap fun r ah=>?_);rw [(Ee ah).1];have ai:cells.size=len*pp.n:=by
  have:cells.toList.length=len*pp.n:=by
   rw [ab];have:∀(vs:Lv_),(∀v∈vs,v.cells.size=pp.n)→(vs.map (·.cells.toList)).flatten.length=vs.length*pp.n:=by
    intro vs
    induction vs with
    | nil=>intro _;simp
    | cons v vs Z=>intro h;rw [List.map_cons,List.flatten_cons,List.length_append,Z fun w hw=>h w (List.mem_cons_of_mem _ hw),List.length_cons,Nat.succ_mul,Nat.add_comm];simp [h v (by simp)]
   rw [this vs ag,U]
  simpa using this
 have:=h r [(r,.cells cells e (0,0))] ⟨vs.map (·.cells.toList),.inr ⟨r,cells,rfl,rfl,ai,by omega,by rw [← ab,List.take_of_length_le (by simp [ai,V])]⟩,by simp [U,V],fun i x ws ay hw=>by
  rw [List.getElem?_map] at hw
  cases O:vs[i]? with
  | none=>rw [O] at hw;cases hw
  | some v=>rw [O] at hw;cases hw;exact ac i x v ay O⟩ (Ee ah).2
 rw [V] at this;exact this
theorem B9{α:Type}{pp:Rp α}{len:Nat}{K:Array (Nat×Operand)}(vs:Lv_){z:Value}(xs:List α)
  (O:ops[i]? =some ⟨d,.buildSlice t len K,ty,p,af,g⟩) (hw:A5 L ops ⟨d,.buildSlice t len K,ty,p,af,g⟩=some true) (U:Ct b n ⟨d,.buildSlice t len K,ty,p,af,g⟩=true)
  (ht:P.underlying t=some (.slice e)) (V:Br P e=some pp.n) (Y:zeroOf P e=some z) (Z:decide (0<len*pp.n∧len*pp.n≤2 ^ 24)=true)
  (aa:K.toList.mapM (fun q=>(ev L q.2).map fun v=>(q.1,v))=some ((vs.zipIdx 0).map fun q=>(q.2,q.1)))
  (ab:vs.length=len) (ac:xs.length=len) (ae:Hu pp E xs vs) (ag:Ar E H S)
  (h:∀r seg,OL e pp E (some ⟨r,0,none⟩) len seg xs→Ar E H (S++ [seg])→JL J Q b n (Ax L d (.slice (some ⟨r,0,none⟩) xs.length len)) ds (.inRegion ops rest::k) cs (Am E H (S++ [seg]))):
  JL J Q b n L ds (.inRegion ops (i::rest)::k) cs (Am E H S):=by
 exact JL.op O hw U fun ρ ah=>Mq ah vs xs ht V Y Z aa ab ac ae ag h
theorem OL.get{α:Type}{pp:Rp α}{a:Option Addr}{c:Nat}{seg:Seg}{xs:List α}{m:Nat}{x:α}(hg:OL e pp E a c seg xs)(hm:xs[m]? =some x):
  ∃bk f ws,a=some ⟨bk,0,none⟩∧seg= [(bk,.cells f e (0,0))]∧pp.r E ws x∧(∀j w,ws[j]? =some w→f[m*pp.n+j]? =some w)∧(m+1)*pp.n≤f.size∧
   ∀(x':α) (ws':Lv_),pp.r E ws' x'→OL e pp E a c [(bk,.cells (AI f (m*pp.n) ws') e (0,0))] (xs.set m x'):=by
 obtain⟨K,hg,ac,Z⟩:=hg;have ae:m<xs.length:=(List.getElem?_eq_some_iff.1 hm).1;rcases hg with⟨aa,ag,_⟩ | ⟨bk,f,aa,ag,an,ah,ai⟩
 ·omega
 have hw:K[m]? =some K[m]:=List.getElem?_eq_getElem (by omega);have aj:=GM ac Z;have hle:(m+1)*pp.n≤xs.length*pp.n:=Nat.mul_le_mul_right _ ae;have aq:xs.length*pp.n≤c*pp.n:=Nat.mul_le_mul_right _ ah;refine⟨bk,f,K[m],aa,ag,Z m x _ hm hw,fun j w O=>?_,by omega,fun x' ws' ak=>?_⟩
 ·have:=H3 aj hw j w O;rw [ai,List.getElem?_take] at this;split at this
  ·simpa using this
  ·cases this
 ·have al:ws'.length=pp.n:=pp.len ak;refine⟨K.set m ws',.inr ⟨bk,_,aa,rfl,by rw [LM];exact an,by simpa using ah,?_⟩,by simpa using ac,fun i y us Y hu=>?_⟩
  ·simp only [List.length_set];have key:∀(K:List (Lv_)) (m:Nat) (hm:m<K.length),(∀ws∈K,ws.length=pp.n)→∀j,(K.set m ws').flatten[j]? =if m*pp.n≤j∧j<(m+1)*pp.n then ws'[j - m*pp.n]? else K.flatten[j]? :=by
    intro K
    induction K with
    | nil=>intro m hm;simp at hm
    | cons us K ab=>
     intro m hm am j;have hu:us.length=pp.n:=am us (by simp);cases m with
     | zero=>
      simp only [List.set_cons_zero,List.flatten_cons,Nat.zero_mul,Nat.zero_le,true_and,Nat.zero_add,Nat.one_mul,Nat.sub_zero];split
      ·rename_i O;rw [List.getElem?_append_left (by omega)]
      ·rename_i O;rw [List.getElem?_append_right (by omega),List.getElem?_append_right (by omega),al,hu]
     | succ m=>
      simp only [List.set_cons_succ,List.flatten_cons];have U:(m+1)*pp.n=m*pp.n+pp.n:=Nat.succ_mul _ _;have e2:(m+1+1)*pp.n=(m+1)*pp.n+pp.n:=Nat.succ_mul _ _;rcases Nat.lt_or_ge j us.length with O | O
      ·rw [List.getElem?_append_left O,List.getElem?_append_left O,if_neg (by omega)]
      ·rw [List.getElem?_append_right O,List.getElem?_append_right O,ab m (by simpa using hm) (fun ws ao=>am ws (List.mem_cons_of_mem _ ao))];by_cases V:m*pp.n≤j - us.length∧j - us.length<(m+1)*pp.n
       ·rw [if_pos V,if_pos (by omega)];congr 1;omega
       ·rw [if_neg V,if_neg (by omega)]
   have ap:∀(vs:Lv_) (c:Aw) (off:Nat),off+vs.length≤c.size→∀j,(AI c off vs)[j]? =if off≤j∧j<off+vs.length then vs[j - off]? else c[j]? :=by
    intro vs
    induction vs with
    | nil=>intro c off _ j;simp [AI];omega
    | cons w vs ab=>
     intro c off V j;simp only [AI,List.length_cons] at*;rw [ab _ _ (by simp;omega)];by_cases U:j=off
     ·subst U;rw [if_neg (by omega),if_pos (by omega),Nat.sub_self,List.getElem?_cons_zero,Array.getElem?_setIfInBounds_self_of_lt (by omega)]
     ·by_cases e2:off+1≤j∧j<off+1+vs.length
      ·rw [if_pos e2,if_pos (by omega)];have:j - off=(j - (off+1))+1:=by omega
       rw [this];simp
      ·rw [if_neg e2,if_neg (by omega),Array.getElem?_setIfInBounds_ne (by omega)]
   apply List.ext_getElem?;intro j;have U:(m+1)*pp.n=m*pp.n+pp.n:=Nat.succ_mul _ _;have t1:(AI f (m*pp.n) ws').toList[j]? =(AI f (m*pp.n) ws')[j]? :=Array.getElem?_toList;have t2:f.toList[j]? =f[j]? :=Array.getElem?_toList;rw [key K m (by omega) aj,List.getElem?_take,t1,ap ws' f (m*pp.n) (by omega),ai,List.getElem?_take,t2,al];by_cases V:m*pp.n≤j∧j<(m+1)*pp.n
   ·rw [if_pos V,if_pos (by omega),if_pos (by omega)]
   ·rw [if_neg V,if_neg (show ¬(m*pp.n≤j∧j<m*pp.n+pp.n) by omega)]
  ·rw [List.getElem?_set] at Y hu;by_cases U:m=i
   ·subst U;rw [if_pos rfl,if_pos ae] at Y;rw [if_pos rfl,if_pos (by omega)] at hu;cases Y;cases hu;exact ak
   ·rw [if_neg U] at hu Y;exact Z i y us Y hu
theorem TE{α:Type}{pp:Rp α}{a:Option Addr}{c:Nat}{seg:Seg}{xs:List α}{xv:α}{m:Int}(j:Nat)(hg:OL e pp E a c seg xs)(hm:ix xs m=some xv)(O:S[j]? =some seg)
  (U:ops[i]? =some ⟨d,.indexAddr t x y,ty,p,af,g⟩) (hw:A5 L ops ⟨d,.indexAddr t x y,ty,p,af,g⟩=some true) (V:Ct b n ⟨d,.indexAddr t x y,ty,p,af,g⟩=true)
  (Y:ev L x=some (.slice a xs.length c)) (Z:ev L y=some (.int kd m)) (ht:P.underlying t=some (.slice e)) (aa:Br P e=some pp.n)
  (h:∀bk o f ws,S[j]? =some [(bk,.cells f e (0,0))]→pp.r E ws xv→(∀j w,ws[j]? =some w→f[o+j]? =some w)→o+pp.n≤f.size→(∀(x':α) (ws':Lv_),pp.r E ws' x'→OL e pp E a c [(bk,.cells (AI f o ws') e (0,0))] (xs.set m.toNat x'))→o=m.toNat*pp.n→a=some ⟨bk,0,none⟩→
   JL J Q b n (Ax L d (.pointer (some ⟨bk,o,none⟩))) ds (.inRegion ops rest::k) cs (Am E H S)):
  JL J Q b n L ds (.inRegion ops (i::rest)::k) cs (Am E H S):=by
 obtain⟨m,rfl,hm⟩:=Gt hm;have aj:m<xs.length:=(List.getElem?_eq_some_iff.1 hm).1;obtain⟨bk,f,ws,rfl,rfl,ab,ac,ae,ag⟩:=OL.get hg hm;have ah:(m+1)*pp.n=m*pp.n+pp.n:=Nat.succ_mul _ _;have ai:m*pp.n+pp.n≤f.size:=by rw [← ah];exact ae
 refine AY (v:= .pointer (some ⟨bk,m*pp.n,none⟩)) U hw V (fun ρ K=>?_) (h bk (m*pp.n) f ws O ab ac ai (by simpa using ag) (by simp) rfl);have:=Kj (P:=P) (s:=Am E H S) (d:=d) (ty:=ty) (p:=p) (af:=af) (g:=g) ht aa (K x _ Y) (K y _ Z) ⟨by omega,by omega⟩;rw [Dq rfl] at this;simpa using this
end
end Pal
namespace Pal
open Go Go.Conc
section
variable {P:Program}{J:Judge P}{Q:Gs_}{b:Frame}{n:Nat}{ds:Ld_}{ops:Ao_}{k:Li_}{cs:Lf_}{L:Env}{s:St}{E E' H:LH}{S:List Seg}
variable {d:Option Tmp}{x y:Operand}{t u ty e:TypeId}{p:String}{af:Ae_}{g:On_}{v:Value}{i:Nat}{rest:List Nat}{kd:IntKind}
theorem JS.perm{todo:Li_}{S':List Seg}(K:S.flatten.Perm S'.flatten)(O:Ar E H S)(h:Ar E H S'→JL J Q b n L ds todo cs (Am E H S')):JL J Q b n L ds todo cs (Am E H S):=by
 have U:Ar E H S':=Nd.perm O K;rw [show Am E H S=Am E H S' from Ep O K];exact h U
theorem Ft{todo:Li_}{A B:Seg}(j:Nat)(K:S[j]? =some (A++B))(O:Ar E H S)(h:Ar E H (S.set j A++ [B])→JL J Q b n L ds todo cs (Am E H (S.set j A++ [B]))):JL J Q b n L ds todo cs (Am E H S):=by
 refine JS.perm ?_ O h;have U:=(DG (seg':=A) K).1;have V:=(DG (seg':=A) K).2;rw [F4];refine U.trans ?_;have Y:=V.symm.append_right B
 rwa [List.append_assoc] at Y
theorem JS.swap{todo:Li_}{A B:Seg}(j l:Nat)(O:S[j]? =some A)(U:S[l]? =some B)(Y:(j==l)=false)(Z:Ar E H S)(h:Ar E H ((S.set j B).set l A)→JL J Q b n L ds todo cs (Am E H ((S.set j B).set l A))):JL J Q b n L ds todo cs (Am E H S):=by
 have K:j≠l:=by simpa using Y
 refine JS.perm ?_ Z h;have aa:=(DG (seg':=B) O).1;have ab:(S.set j [])[l]? =some B:=by rw [List.getElem?_set_ne K];exact U
 have ac:=(DG (seg':=A) ab).1;have ae:((S.set j B).set l A)[l]? =some A:=by
  have:l<(S.set j B).length:=by rw [List.length_set];exact(List.getElem?_eq_some_iff.1 U).1
  rw [List.getElem?_set,if_pos rfl,if_pos this]
 have V:=(DG (seg':=A) ae).1;rw [List.set_set] at V;have ag:((S.set j B).set l [])[j]? =some B:=by
  have:j<S.length:=(List.getElem?_eq_some_iff.1 O).1;rw [List.getElem?_set_ne (Ne.symm K)];simp [this]
 have c2:=(DG (seg':=B) ag).1;have ah:(((S.set j B).set l []).set j [])=((S.set j []).set l []):=by
  rw [List.set_comm _ _ K,List.set_set,List.set_comm _ _ K.symm]
 rw [ah] at c2;exact aa.trans ((ac.append_right A).trans ((c2.symm.append_right A).trans V.symm))
theorem EJ{bk off:Nat}{c:Aw}{f:Nat×Nat}{vs:Lv_}{seg:Seg}(j:Nat)(K:Ar E H S)(O:S[j]? =some ((bk,.cells c e f)::seg))(U:(c.toList.drop off).take vs.length=vs):∀i v,vs[i]? =some v→(Am E H S).cell? (Addr.add ⟨bk,off,none⟩ i)=some v:=
 Q7 K O fun i v hi=>by
  have V:i<vs.length:=(List.getElem?_eq_some_iff.1 hi).1
  rw [← U,List.getElem?_take_of_lt V,List.getElem?_drop,Array.getElem?_toList] at hi
  exact hi
theorem ND(vs:Lv_):∀(c:Aw) (off:Nat),off+vs.length≤c.size→∀j,(AI c off vs)[j]? =if off≤j∧j<off+vs.length then vs[j - off]? else c[j]? :=by
 induction vs with
 | nil=>intro c off _ j;simp [AI];omega
 | cons w vs K=>
  intro c off U j;simp only [AI,List.length_cons] at*;rw [K _ _ (by simp;omega)];by_cases O:j=off
  ·subst O;rw [if_neg (by omega),if_pos (by omega),Nat.sub_self,List.getElem?_cons_zero,Array.getElem?_setIfInBounds_self_of_lt (by omega)]
  ·by_cases e2:off+1≤j∧j<off+1+vs.length
   ·rw [if_pos e2,if_pos (by omega)];have:j - off=(j - (off+1))+1:=by omega
    rw [this];simp
   ·rw [if_neg e2,if_neg (by omega),Array.getElem?_setIfInBounds_ne (by omega)]
end
end Pal
namespace Pal
open Go Go.Conc
theorem elim_inl{α β K:Type}{f:α→Option K}{g:β→Option K}{x:α}{r:K}(h:Sum.elim f g (.inl x)=some r):f x=some r:=h
theorem elim_inr{α β K:Type}{f:α→Option K}{g:β→Option K}{x:β}{r:K}(h:Sum.elim f g (.inr x)=some r):g x=some r:=h
def room{α:Type}(xs:List α)(x:α):Option (List α):=if xs.length+1≤2 ^ 40 then some (xs++ [x]) else none
theorem RH{α:Type}{xs ys:List α}{x:α}(h:room xs x=some ys):xs.length+1≤2 ^ 40∧ys=xs++ [x]:=by
 unfold room at h;split at h
 ·rename_i hb;exact⟨hb,(Option.some.inj h).symm⟩
 ·cases h
def IK(a b:Nat):Option Nat:=if a<65536∧b<65536 then some (a ||| b) else none
def Js(a b:Nat):Option Nat:=if a<65536∧b<65536 then some (a&&& b) else none
section
variable {P:Program}{s:St}{ρ:Operand→Value}{x y z:Operand}{d:Option Tmp}{t u ty e:TypeId}{p:String}{af:Ae_}{g:On_}{v:Value}{kd kd':IntKind}{m m':Int}{a b:Nat}
theorem Jb{r:Nat}(O:ρ x=DL a)(U:ρ y=DL b)(h:IK a b=some r):Yl P ⟨d,.binOp .or t x y u,ty,p,af,g⟩ ρ s (DL r):=by
 unfold IK at h;split at h
 ·rename_i K;cases h;exact TO O U K.1 K.2
 ·cases h
theorem LS{r:Nat}(O:ρ x=DL a)(U:ρ y=DL b)(h:Js a b=some r):Yl P ⟨d,.binOp .and t x y u,ty,p,af,g⟩ ρ s (DL r):=by
 unfold Js at h;split at h
 ·rename_i K;cases h;exact SX O U K.1 K.2
 ·cases h
theorem Yl.max2{ats:Array TypeId}(K:ρ x=iV m)(O:ρ y=iV m'):Yl P ⟨d,.call ⟨.builtin .max,#[x,y],ats⟩,ty,p,af,g⟩ ρ s (iV (max m m')):=by
 have e:(if m<m' then m' else m)=max m m':=by split <;> omega
 simp [Yl,execOp,lp,pure,bind,Sem.bind,K,O,resolve,invoke,builtin,Builtin.max_,Builtin.max2,e]
end
def JC(P:Program):List Field→List (Nat×Nat)→Prop
 | f::K,(o,n)::O=>f.offset=o∧Br P f.type=some n∧JC P K O
 | [],[]=>True
 | _,_=>False
theorem JC.mapM{P:Program}:∀{K:List Field} {O:List (Nat×Nat)},JC P K O→K.mapM (fun f=>(Br P f.type).map fun n=>(f.offset,n))=some O
 | [],[],_=>rfl
 | [],_::_,h=>h.elim
 | _::_,[],h=>h.elim
 | f::K,(o,n)::O,h=>by
  obtain⟨U,V,Y⟩:=h
  simp only [List.mapM_cons,bind,V,Option.map_some,Option.bind_some,JC.mapM Y,U];rfl
theorem Np{L:Env}{ρ:Operand→Value}(h:DJ L ρ):∀{l:List (Nat×Operand)} {vs:List (Nat×Value)},l.mapM (fun q=>(ev L q.2).map fun v=>(q.1,v))=some vs→l.map (fun(j,x)=>(j,ρ x))=vs
 | [],vs,e=>by simp at e;subst e;rfl
 | q::l,vs,e=>by
  simp only [List.mapM_cons,bind] at e
  cases K:ev L q.2 with
  | none=>rw [K] at e;simp at e
  | some w=>
   rw [K] at e
   simp only [Option.map_some,Option.bind_some] at e
   obtain⟨V,U,O⟩:=bind_some e
   simp at O;subst O
   simp [Np h U,h _ _ K]
theorem Cl{P:Program}{s:St}{ρ:Operand→Value}{L:Env}{d:Option Tmp}{t ty:TypeId}{p:String}{af:Ae_}{g:On_}{z:Value}{K:Array Field}{O:Array (Nat×Operand)}{vs:List (Nat×Value)}{cells:Aw}(places:List (Nat×Nat))(h:DJ L ρ)(U:zeroOf P t=some z)(ht:P.underlying t=some (.struct K))(V:JC P K.toList places)
  (Y:O.toList.mapM (fun q=>(ev L q.2).map fun v=>(q.1,v))=some vs) (Z:Iv (places.toArray[·]?) z.cells vs=some cells):Yl P ⟨d,.build t O,ty,p,af,g⟩ ρ s (.agg cells):=
 Yl.build (places:=places.toArray) U ht (by simpa using V.mapM) (Np h Y) (by rw [fill_eq];exact Z)
theorem OL.again{α:Type}{e:TypeId}{pp:Rp α}{E:LH}{a:Option Addr}{bk c o:Nat}{f:Aw}{xs:List α}{m:Int}{x:α}(hg:OL e pp E a c [(bk,.cells f e (0,0))] xs)(hm:ix xs m=some x)(O:o=m.toNat*pp.n):
  ∃ws,pp.r E ws x∧(∀j w,ws[j]? =some w→f[o+j]? =some w)∧o+pp.n≤f.size∧∀(x':α) (ws':Lv_),pp.r E ws' x'→OL e pp E a c [(bk,.cells (AI f o ws') e (0,0))] (xs.set m.toNat x'):=by
 obtain⟨m,rfl,hm⟩:=Gt hm;obtain⟨ac,ae,ws,ag,K,U,V,Y,Z⟩:=OL.get hg hm;simp only [List.cons.injEq,Prod.mk.injEq,Obj.cells.injEq,and_true] at K;obtain⟨rfl,rfl⟩:=K;have aa:(m+1)*pp.n=m*pp.n+pp.n:=Nat.succ_mul _ _;have ab:o=m*pp.n:=by simpa using O
 subst ab;exact⟨ws,U,V,by rw [← aa];exact Y,by simpa using Z⟩
section
variable {P:Program}{J:Judge P}{Q:Gs_}{b:Frame}{n:Nat}{ds:Ld_}{ops:Ao_}{k:Li_}{cs:Lf_}{L:Env}{s:St}{E E' H:LH}{S:List Seg}
variable {d:Option Tmp}{x y:Operand}{t u ty e:TypeId}{p:String}{af:Ae_}{g:On_}{v:Value}{i:Nat}{rest:List Nat}{kd:IntKind}
theorem JS.app{α:Type}{pp:Rp α}{t1 t2:TypeId}{K c:Nat}{a:Option Addr}{seg:Seg}{xs ys:List α}{xv:α}{Y:Nat}{d1:Tmp}{ats:Array TypeId}{O:TypeId}{U:String}{V:Ae_}{g':On_}{z:Value}(j:Nat)(ab:room xs xv=some ys)
  (ac:ops[i]? =some ⟨some d1,.buildSlice t2 1 #[(0,y)],O,U,V,g'⟩) (hw:A5 L ops ⟨some d1,.buildSlice t2 1 #[(0,y)],O,U,V,g'⟩=some true) (ae:Ct b n ⟨some d1,.buildSlice t2 1 #[(0,y)],O,U,V,g'⟩=true)
  (ag:ops[Y]? =some ⟨d,.call ⟨.builtin .append,#[x,.tmp d1],ats⟩,ty,p,af,g⟩) (ah:∀w,A5 (Ax L (some d1) w) ops ⟨d,.call ⟨.builtin .append,#[x,.tmp d1],ats⟩,ty,p,af,g⟩=some true) (ai:Ct b n ⟨d,.call ⟨.builtin .append,#[x,.tmp d1],ats⟩,ty,p,af,g⟩=true)
  (aj:∀w,ev (Ax L (some d1) w) x=some (.slice a xs.length c)) (ak:ev L y=some v) (al:ats[0]? =some t) (am:ats[1]? =some t1) (ht:P.underlying t=some (.slice e)) (an:P.underlying t1=some (.slice e)) (ao:P.underlying t2=some (.slice e)) (ap:Br P e=some pp.n) (hb:D6 P e=some K) (aq:zeroOf P e=some z) (ar:z.cells.size=pp.n)
  (au:0<K) (av:K≤64) (aw:0<pp.n) (ay:pp.n≤64) (hg:OL e pp E a c seg xs) (az:pp.r E v.cells.toList xv) (aA:Ar E H S) (aB:S[j]? =some seg)
  (h:∀w Z aa seg',OL e pp E Z aa seg' ys→Ar E H (S.set j seg')→JL J Q b n (Ax (Ax L (some d1) w) d (.slice Z ys.length aa)) ds (.inRegion ops rest::k) cs (Am E H (S.set j seg'))):
  JL J Q b n L ds (.inRegion ops (i::Y::rest)::k) cs (Am E H S):=by
 obtain⟨aC,rfl⟩:=RH ab;exact Nm j ac hw ae ag ah ai aj ak al am ht an ao ap hb aq ar au av aw ay aC hg az aA aB h
theorem Bl{todo:Li_}{S':List Seg}(K:S=S')(O:Ar E H S)(h:Ar E H S'→JL J Q b n L ds todo cs (Am E H S')):JL J Q b n L ds todo cs (Am E H S):=by
 subst K;exact h O
end
end Pal
namespace Pal
open Go Go.Conc
theorem Dt.IC{P:Program}{J:Judge P}{f:FuncId}{args:Aw}{s:St}{R:Value→St→Prop}(h:Dt J f args s R)(U:∀v s',R v s'→s'.q=false):Dt J f args s (fun v s'=>R v s'∧∃w,Fits s' w):=fun Q c cs V=>
 h Q c cs fun v s' K=>by
  by_cases O:∃w,Fits s' w
  ·exact V v s' ⟨K,O⟩
  ·exact J.step ⟨rfl,fun w f=>absurd ⟨w,f⟩ O,fun e=>by have:=U v s' K;subst e;cases this⟩
def AX(l:List Nat):Nat→Bool:=fun x=>l.contains x
section
variable {P:Program}{J:Judge P}{Q:Gs_}{b:Frame}{n:Nat}{ds:Ld_}{ops:Ao_}{k:Li_}{cs:Lf_}{m fuel:Nat}{D:Nat→Bool}{listed:Array Bool}{L:Env}{s:St}{E E' H:LH}{S:List Seg}
variable {d:Option Tmp}{x y:Operand}{t u ty e:TypeId}{p:String}{af:Ae_}{g:On_}{v:Value}{i:Nat}{kd:IntKind}
def Et(ops:Ao_)(listed:Array Bool)(m i:Nat):Bool:=match ops[i]? with
 | some oi=>decide (i<m)&&Region.noSelect ops&& !CV oi.op&&GW ops listed i oi&&F8 ops listed&&listed.size==ops.size&&(Region.ready .any ops listed).contains i
 | none=>false
theorem R3(m:Nat){id:Nat}(hm:P.follows .mixedOrders=true)(K:(b.kind != .early)=true)
  (ht:De ops m=true) (h:De ops m=true→AQ J Q b n ds ops k cs m CQ ops.size (Array.replicate ops.size false) L (Am E H S)):JL J Q b n L ds (.code (.region id ops true)::k) cs (Am E H S):=
 N5 m CQ rfl hm K (h ht)
theorem Nr{oi:Oper}{i:Nat}(hi:ops[i]? =some oi)(K:Et ops listed m i=true):decide (i<m)=true∧Region.noSelect ops=true∧(!CV oi.op)=true∧GW ops listed i oi=true∧F8 ops listed=true∧(listed.size==ops.size)=true∧(Region.ready .any ops listed).contains i=true:=by
 simp only [Et,hi,Bool.and_eq_true] at K;obtain⟨⟨⟨⟨⟨⟨O,U⟩,V⟩,Y⟩,Z⟩,aa⟩,ab⟩:=K;exact⟨O,U,V,Y,Z,aa,ab⟩
theorem DR{oi:Oper}(i:Nat)(hi:ops[i]? =some oi)(K:De ops m=true)(O:Et ops listed m i=true)(U:s.q=false)
  (hw:A5 L ops oi=some true) (V:Bs n oi.dst=true) (Y:∀ρ,DJ L ρ→∀s':St,(∀x o,(Bu D s).E x=some o→s'.E x=some o)→Yl P oi ρ s' v)
  (h:AQ J Q b n ds ops k cs m D fuel (A4 listed i) (Ax L oi.dst v) s):AQ J Q b n ds ops k cs m D (fuel+1) listed L s:=
 let ⟨Z,aa,ab,ac,ae,ag,ah⟩:=Nr hi O
 RA hi Z K aa ab ac ae ag ah U hw V (fun ρ ai s' _ hs=>Y ρ ai s' hs) h
theorem UO{oi:Oper}(i:Nat)(hi:ops[i]? =some oi)(K:De ops m=true)(O:Et ops listed m i=true)(U:s.q=false)
  (hw:A5 L ops oi=some false) (V:Bs n oi.dst=true)
  (h:AQ J Q b n ds ops k cs m D fuel (A4 listed i) (Ax L oi.dst undef) s):AQ J Q b n ds ops k cs m D (fuel+1) listed L s:=
 let ⟨Y,Z,aa,ab,ac,ae,ag⟩:=Nr hi O
 RM hi Y K Z aa ab ac ae ag U hw V h
theorem Ue{α:Type}{pp:Rp α}{a:Option Addr}{c:Nat}{xs:List α}{xv:α}{K:Int}(i:Nat)(V:Aq pp E a c xs)(O:ix xs K=some xv)
  (Y:ops[i]? =some ⟨d,.indexAddr t x y,ty,p,af,g⟩) (Z:De ops m=true) (aa:Et ops listed m i=true) (ab:s.q=false)
  (hw:A5 L ops ⟨d,.indexAddr t x y,ty,p,af,g⟩=some true) (ac:Bs n d=true)
  (ae:ev L x=some (.slice a xs.length c)) (ag:ev L y=some (.int kd K)) (ht:P.underlying t=some (.slice e)) (ah:Br P e=some pp.n)
  (h:∀bk o ws,pp.r E ws xv→At E bk o ws→AQ J Q b n ds ops k cs m D fuel (A4 listed i) (Ax L d (.pointer (some ⟨bk,o,none⟩))) s):
  AQ J Q b n ds ops k cs m D (fuel+1) listed L s:=by
 obtain⟨K,rfl,O⟩:=Gt O;have ai:K<xs.length:=(List.getElem?_eq_some_iff.1 O).1;obtain⟨am,⟨rfl,_⟩ | ⟨bk,off,rfl,aj⟩⟩:=V
 ·simp at ai
 obtain⟨ws,ak,al⟩:=aj K xv O;refine DR (v:= .pointer (some ⟨bk,off+K*pp.n,none⟩)) i Y Z aa ab hw ac (fun ρ U s' _=>?_) (h bk _ ws ak al);have:=Kj (P:=P) (s:=s') (d:=d) (ty:=ty) (p:=p) (af:=af) (g:=g) ht ah (U x _ ae) (U y _ ag) ⟨by omega,by omega⟩;rw [Dq rfl] at this;simpa using this
theorem JG.call{f:FuncId}{args:Array Operand}{ats:Array TypeId}{vs:Lv_}{R:Value→LH→Seg→Prop}(V:AT J f vs E [] R)(Y:Region.ready .any ops listed= [i])
  (Z:ops[i]? =some ⟨d,.call ⟨.value (.func f),args,ats⟩,ty,p,af,g⟩) (aa:Bs n d=true) (hw:A5 L ops ⟨d,.call ⟨.value (.func f),args,ats⟩,ty,p,af,g⟩=some true) (hb:Dj P f=true) (ab:evs L args.toList=some vs) (ac:Ar E H S)
  (ae:∀v E' seg',Le E E'→R v E' seg'→Ar E' H (S++ [seg'])→AQ J Q b n ds ops k cs m CQ fuel (A4 listed i) (Ax L d v) (Am E' H (S++ [seg']))):
  AQ J Q b n ds ops k cs m CQ (fuel+1) listed L (Am E H S):=by
 have ag:=Dt.IC (V (A9 S.flatten H) trivial) (by rintro v s' ⟨E',B',_,_,_,rfl⟩;rfl);refine AQ.call rfl Y Z aa hw hb ab ag ?_;rintro v an ⟨⟨E',B',hle,ah,ai,rfl⟩,w,aj⟩;have e2:mk E' (A9 S.flatten H) B'=mk E' H (B'++S.flatten):=by unfold mk;rw [EY]
 have ak:Nd E' H S.flatten:=Nd.grow ac fun x K=>by
  have al:=aj.d x K;have am:A9 B' (A9 S.flatten H) x=none:=al;exact(F2 am).1
 have O:Nd E' H (B'++S.flatten):=Nd.glue ai ak;have U:(B'++S.flatten).Perm (S++ [B']).flatten:=by rw [F4];exact List.perm_append_comm
 rw [e2,Ep O U];exact⟨rfl,fun x o K=>hle x o K,ae v E' B' hle ah (Nd.perm O U)⟩
end
end Pal
namespace Pal
open Go Go.Conc
theorem KX{E H:LH}{S:List Seg}{j bk:Nat}{o:Obj}{seg:Seg}(K:Ar E H S)(O:S[j]? =some ((bk,o)::seg)):E bk=none:=by
 have hm:(bk,o)∈S.flatten:=List.mem_flatten.2 ⟨_,List.mem_of_getElem? O,by simp⟩;exact((Nd.iff.1 K).2 _ hm).1
end Pal
namespace Pal
open Go Go.Conc
def MN(a:Nat)(n:Int):Option Nat:=if 0≤n∧n≤16 then some (a>>>n.toNat) else none
def MD(n:Int):Option Nat:=if 0≤n∧n<16 then some (1<<<n.toNat) else none
def Ff{α:Type}(xs ys:List α):Option (List α):=if xs.length+ys.length≤2 ^ 40 then some (xs++ys) else none
def ME{α:Type}(xs:List α)(lo hi:Int):Option (List α):=if 0≤lo∧lo≤hi∧hi≤xs.length then some ((xs.take hi.toNat).drop lo.toNat) else none
section
variable {P:Program}{s:St}{ρ:Operand→Value}{x y z:Operand}{d:Option Tmp}{t u ty e:TypeId}{p:String}{af:Ae_}{g:On_}{v:Value}{kd kd':IntKind}{m m':Int}{a b:Nat}
theorem Tq{r:Nat}(K:ρ x=DL a)(O:ρ y=iV m)(h:MN a m=some r):Yl P ⟨d,.binOp .shr t x y u,ty,p,af,g⟩ ρ s (DL r):=by
 unfold MN at h;split at h
 ·rename_i U;cases h;refine Te K (c:=m.toNat) ?_ (by omega);rw [O];congr 1;omega
 ·cases h
theorem S9{r:Nat}(K:ρ x=DL 1)(O:ρ y=iV m)(h:MD m=some r):Yl P ⟨d,.binOp .shl t x y u,ty,p,af,g⟩ ρ s (DL r):=by
 unfold MD at h;split at h
 ·rename_i U;cases h;refine Td K (c:=m.toNat) ?_ (by omega);rw [O];congr 1;omega
 ·cases h
end
section
variable {P:Program}{J:Judge P}{Q:Gs_}{b:Frame}{n:Nat}{ds:Ld_}{ops:Ao_}{k:Li_}{cs:Lf_}{L L':Env}{s:St}{E E' H:LH}{S:List Seg}
variable {d:Option Tmp}{x y:Operand}{t u ty e:TypeId}{p:String}{af:Ae_}{g:On_}{v:Value}{i:Nat}{rest:List Nat}{kd:IntKind}
theorem OQ{α:Type}{pp:Rp α}(O:ops[i]? =some ⟨d,.buildSlice t 0 #[],ty,p,af,g⟩)(hw:A5 L ops ⟨d,.buildSlice t 0 #[],ty,p,af,g⟩=some true)(U:Ct b n ⟨d,.buildSlice t 0 #[],ty,p,af,g⟩=true)
  (ht:P.underlying t=some (.slice e)) (V:Br P e=some pp.n) (Y:Ar E H S)
  (h:∀r seg,OL e pp E (some ⟨r,0,none⟩) 0 seg []→Ar E H (S++ [seg])→JL J Q b n (Ax L d (.slice (some ⟨r,0,none⟩) 0 0)) ds (.inRegion ops rest::k) cs (Am E H (S++ [seg]))):
  JL J Q b n L ds (.inRegion ops (i::rest)::k) cs (Am E H S):=by
 refine JL.op O hw U fun ρ aa=>?_;rw [NF];refine Ay _ _ ?_;unfold Instr.buildSlice;refine Ay _ _ (CY ht ?_);refine Ay _ _ (En V ?_);rw [if_neg (by omega),if_pos (by omega)];refine Ay (x:=pure #[]) _ ?_;simp only [lp,pure,List.map_toArray,List.map_nil,Instr.fill];refine Ay _ _ (GL Y fun r K=>?_);rw [(Ee K).1];exact h r _ ⟨[],.inr ⟨r,_,rfl,rfl,by simp,Nat.le_refl _,by simp⟩,rfl,fun i x ws Z=>by simp at Z⟩ (Ee K).2
theorem Aq.rows{α:Type}{pp:Rp α}{a:Option Addr}{c:Nat}{xs:List α}(U:Aq pp E a c xs):∃V:List (Lv_),V.length=xs.length∧(∀(i:Nat) x ws,xs[i]? =some x→V[i]? =some ws→pp.r E ws x)∧
  ((xs= []∧∀ad:Addr,a=some ad→ad.spot=none∨c=0)∨∃bk off,a=some ⟨bk,off,none⟩∧∀(i:Nat) ws,V[i]? =some ws→At E bk (off+i*pp.n) ws):=by
 obtain⟨ab,U⟩:=U;rcases U with⟨rfl,Z⟩ | ⟨bk,off,rfl,aa⟩
 ·exact⟨[],rfl,fun i x ws O=>by simp at O,.inl ⟨rfl,Z⟩⟩
 ·have Y:∀i:Fin xs.length,∃ws,pp.r E ws xs[i]∧At E bk (off+i*pp.n) ws:=fun i=>aa i xs[i] (List.getElem?_eq_getElem i.2);refine⟨List.ofFn fun i=>Classical.choose (Y i),by simp,fun i x ws O hw=>?_,.inr ⟨bk,off,rfl,fun i ws hw=>?_⟩⟩
  ·have K:i<xs.length:=(List.getElem?_eq_some_iff.1 O).1;simp [K] at hw;subst hw;rw [List.getElem?_eq_getElem K] at O;cases O;exact(Classical.choose_spec (Y ⟨i,K⟩)).1
  ·have K:i<xs.length:=by have:=(List.getElem?_eq_some_iff.1 hw).1;simpa using this
   simp [K] at hw;subst hw;exact(Classical.choose_spec (Y ⟨i,K⟩)).2
theorem Kc{n:Nat}:∀{K:List (Lv_)},(∀ws∈K,ws.length=n)→K.flatten.length=K.length*n
 | [],_=>by simp
 | ws::K,h=>by rw [List.flatten_cons,List.length_append,h ws (by simp),Kc fun w hw=>h w (List.mem_cons_of_mem _ hw),List.length_cons,Nat.succ_mul,Nat.add_comm]
theorem LL{n:Nat}:∀{K:List (Lv_)},(∀ws∈K,ws.length=n)→∀{j:Nat} {w:Value},K.flatten[j]? =some w→∃(i m:Nat) (ws:Lv_),K[i]? =some ws∧ws[m]? =some w∧j=i*n+m
 | [],_,_,_,h=>by simp at h
 | us::K,U,j,w,h=>by
  have hu:=U us (by simp)
  rw [List.flatten_cons] at h
  rcases Nat.lt_or_ge j us.length with O | O
  ·rw [List.getElem?_append_left O] at h
   exact⟨0,j,us,rfl,h,by simp⟩
  ·rw [List.getElem?_append_right O] at h;obtain⟨i,m,ws,V,Y,Z⟩:=LL (fun ws hw=>U ws (List.mem_cons_of_mem _ hw)) h;exact⟨i+1,m,ws,by simpa using V,Y,by rw [Nat.succ_mul];omega⟩
theorem LO{α:Type}{pp:Rp α}{O U:List (Lv_)}{xs ys:List α}(V:O.length=xs.length)(h:∀(i:Nat) x ws,xs[i]? =some x→O[i]? =some ws→pp.r E ws x)(Y:∀(i:Nat) x ws,ys[i]? =some x→U[i]? =some ws→pp.r E ws x):
  ∀(i:Nat) y us,(xs++ys)[i]? =some y→(O++U)[i]? =some us→pp.r E us y:=by
 intro i y us K hu;rcases Nat.lt_or_ge i xs.length with hi | hi
 ·rw [List.getElem?_append_left hi] at K;rw [List.getElem?_append_left (by omega)] at hu;exact h i y us K hu
 ·rw [List.getElem?_append_right hi] at K;rw [List.getElem?_append_right (by omega),V] at hu;exact Y _ y us K hu
variable {B0:List (Nat×Obj)}
theorem QP{e t t1:TypeId}{Y aj l c m:Nat}{a:Option Addr}{blk:List (Nat×Obj)}{xs ys:Lv_}{i:Nat}{rest:List Nat}{d:Option Tmp}{x y:Operand}{ats:Array TypeId}{ty:TypeId}{p:String}{af:Ae_}{g:On_}{z:Value}{ax:Option Addr}{cx:Nat}{B1:List (Nat×Obj)}
  (ar:ops[i]? =some ⟨d,.call ⟨.builtin .append,#[x,y],ats⟩,ty,p,af,g⟩) (hw:A5 L ops ⟨d,.call ⟨.builtin .append,#[x,y],ats⟩,ty,p,af,g⟩=some true) (au:Ct b n ⟨d,.call ⟨.builtin .append,#[x,y],ats⟩,ty,p,af,g⟩=true)
  (av:ev L x=some (.slice a l c)) (aw:ev L y=some (.slice ax m cx)) (ay:ats[0]? =some t) (az:ats[1]? =some t1) (ht:P.underlying t=some (.slice e)) (aA:P.underlying t1=some (.slice e)) (aB:Br P e=some Y) (hb:D6 P e=some aj) (aC:zeroOf P e=some z) (aD:z.cells.size=Y)
  (aE:0<aj) (aF:aj≤64) (aG:l+m≤2 ^ 40) (aH:∀w∈ys,AL w=true) (hg:GS e Y a l c blk xs) (ak:Nd E H (B0++blk++B1)) (hs:FP (mk E H (B0++blk++B1)) (.slice ax m cx) Y ys)
  (h:∀ao ah al,GS e Y ao (l+m) ah al (xs++ys)→Nd E H (B0++al)→JL J Q b n (Ax L d (.slice ao (l+m) ah)) ds (.inRegion ops rest::k) cs (mk E H (B0++al))):
  JL J Q b n L ds (.inRegion ops (i::rest)::k) cs (mk E H (B0++blk++B1)):=by
 refine JL.op ar hw au fun ρ ap=>?_;rw [Ka,ap x _ av,ap y _ aw];have aI:K9 (B0++blk++B1) B0.length e Y a l c xs:=by
  rcases hg with⟨K,V,ab,ac,Z⟩ | ⟨bk,f,K,V,ab,ac,Z⟩
  ·exact .inl ⟨K,V,ab,Z⟩
  ·refine .inr ⟨bk,f,K,?_,ab,ac,Z⟩;subst V;simp
 have hlen:=hg.length;refine Ay _ _ (LR (pl:=B0.length) ay az aA ht aB hb aC aD ak aI hs aH aE aG aF ?_ ?_ ?_)
 ·
  intro bk f O ai aO aP aJ am an aa;rcases hg with⟨K,_⟩ | ⟨U,f0,K,V,ab,ac,Z⟩
  ·rw [K] at ai;cases ai
  ·subst V;have aK:U=bk:=by rw [K] at ai;simpa using ai
   subst aK;have aL:(B0++ [(U,Obj.cells f0 e (0,0))]++B1).set B0.length (U,.cells O e (0,0))=B0++ [(U,.cells O e (0,0))]++B1:=by
    rw [List.append_assoc,List.append_assoc];exact Gq _ _ _ _
   rw [aL] at aa ⊢;have ae:Nd E H (B0++ [(U,.cells O e (0,0))]):=Hh.Nd.left aa;refine JL.drop (B0++ [(U,.cells O e (0,0))]) (fun p ag=>?_) aa (h a c _ (.inr ⟨U,O,K,rfl,am,aJ,an.symm⟩) ae);exact List.mem_iff_getElem?.1 (List.mem_append_left _ ag)
 ·intro aq hm;rcases hg with⟨K,V,ab,ac,Z⟩ | ⟨U,f0,K,_⟩
  ·subst hm;have aM:ys= []:=by
    cases ax with
    | none=>exact hs.2
    | some ad=>have:=hs.2.1;simp at this;exact this
   subst V ac Z aM;have ae:Nd E H (B0++ []):=Hh.Nd.left ak;exact JL.drop (B0++ []) (fun p ag=>List.mem_iff_getElem?.1 (List.mem_append_left _ ag)) ak (h none 0 [] (by simpa using GS.nil) ae)
  ·rw [K] at aq;cases aq
 ·
  intro r O ah aN am an aa;have ae:Nd E H (B0++ [(r,.cells O e (0,0))]):=Hh.Nd.pick aa;refine JL.drop (B0++ [(r,.cells O e (0,0))]) (fun p ag=>?_) aa (h (some ⟨r,0,none⟩) ah _ (.inr ⟨r,O,rfl,rfl,am,aN,an.symm⟩) ae);refine List.mem_iff_getElem?.1 ?_;rcases List.mem_append.1 ag with q | q
  ·simp [q]
  ·exact List.mem_append_right _ q
theorem OE{α:Type}{pp:Rp α}{t1:TypeId}{ab c cx:Nat}{a ax:Option Addr}{seg:Seg}{xs ys ac:List α}{ats:Array TypeId}{z:Value}(j:Nat)(V:Ff xs ys=some ac)
  (am:ops[i]? =some ⟨d,.call ⟨.builtin .append,#[x,y],ats⟩,ty,p,af,g⟩) (hw:A5 L ops ⟨d,.call ⟨.builtin .append,#[x,y],ats⟩,ty,p,af,g⟩=some true) (an:Ct b n ⟨d,.call ⟨.builtin .append,#[x,y],ats⟩,ty,p,af,g⟩=true)
  (ao:ev L x=some (.slice a xs.length c)) (ap:ev L y=some (.slice ax ys.length cx)) (aq:ats[0]? =some t) (ar:ats[1]? =some t1) (ht:P.underlying t=some (.slice e)) (au:P.underlying t1=some (.slice e)) (av:Br P e=some pp.n) (hb:D6 P e=some ab) (aw:zeroOf P e=some z) (ay:z.cells.size=pp.n)
  (az:0<ab) (aA:ab≤64) (hg:OL e pp E a c seg xs) (ag:Aq pp E ax cx ys) (aB:Ar E H S) (ah:S[j]? =some seg)
  (h:∀Y Z seg',OL e pp E Y Z seg' ac→Ar E H (S.set j seg')→JL J Q b n (Ax L d (.slice Y ac.length Z)) ds (.inRegion ops rest::k) cs (Am E H (S.set j seg'))):
  JL J Q b n L ds (.inRegion ops (i::rest)::k) cs (Am E H S):=by
 unfold Ff at V;split at V
 rotate_left
 ·cases V
 rename_i aC;cases V;obtain⟨aD,hg,ai,aE⟩:=hg;obtain⟨aF,aj⟩:=EL aB ah;obtain⟨aa,O,ae,U⟩:=ag.rows;have ak:=GM O ae;rw [aF];have aG:∀w∈aa.flatten,AL w=true:=fun w hw=>by
  obtain⟨us,aH,hw⟩:=List.mem_flatten.1 hw;obtain⟨q,K⟩:=List.mem_iff_getElem?.1 aH;have aI:q<ys.length:=by rw [← O];exact(List.getElem?_eq_some_iff.1 K).1
  exact pp.one (ae q _ us (List.getElem?_eq_getElem aI) K) w hw
 have hlen:(xs++ys).length=xs.length+ys.length:=by simp
 have al:FP (mk E H ((S.set j []).flatten++seg)) (.slice ax ys.length cx) pp.n aa.flatten:=by
  rcases U with⟨U,aR⟩ | ⟨bk,off,rfl,U⟩
  ·subst U;have:aa= []:=List.eq_nil_of_length_eq_zero O;subst this;cases ax with
   | none=>exact⟨rfl,rfl⟩
   | some ad=>exact⟨.inr rfl,by simp,Nat.zero_le _,fun q w K=>by simp at K⟩
  ·refine⟨.inl rfl,by rw [Kc ak,O],ag.1,fun q w K=>?_⟩;obtain⟨q1,m,ws,aJ,e2,aK⟩:=LL ak K;have:=(U q1 ws aJ).cell (H:=H) (B:=(S.set j []).flatten++seg) e2;subst aK;rw [← Nat.add_assoc];exact this
 have aL:(S.set j []).flatten++seg=(S.set j []).flatten++seg++ []:=(List.append_nil _).symm;rw [aL] at aj al ⊢;refine QP am hw an ao ap aq ar ht au av hb aw ay az aA aC aG hg aj al fun Y Z aM aN aO=>?_;obtain⟨aP,aQ⟩:=F9 ah aO;rw [aP];have:=h Y Z aM ⟨aD++aa,by rw [hlen,List.flatten_append];exact aN,by simp [ai,O],LO ai aE ae⟩ aQ;rw [hlen] at this;exact this
end
end Pal
namespace Pal
open Go Go.Conc
section
variable {P:Program}{J:Judge P}{Q:Gs_}{b:Frame}{n:Nat}{ds:Ld_}{ops:Ao_}{k:Li_}{cs:Lf_}{m fuel:Nat}{D:Nat→Bool}{listed:Array Bool}{L L':Env}{s:St}{E E' H:LH}{S:List Seg}
variable {d:Option Tmp}{x y:Operand}{t u ty e:TypeId}{p:String}{af:Ae_}{g:On_}{v:Value}{i:Nat}{rest:List Nat}{kd:IntKind}
theorem Dp(h:Sub L' L)(k':AQ J Q b n ds ops k cs m D fuel listed L' s):AQ J Q b n ds ops k cs m D fuel listed L s:=fun T K=>k' T (K.sub h)
theorem Fq{K:Nat}{O:Array Bool}(fuel:Nat)(listed:Array Bool)(I:Env→St→Prop)(U:∀L s,I L s→AQ J Q b n ds ops k cs m D fuel listed L s)(h:(∀L s,I L s→AQ J Q b n ds ops k cs m D fuel listed L s)→AQ J Q b n ds ops k cs m D K O L s):AQ J Q b n ds ops k cs m D K O L s:=h U
end
def G8(t:TypeId)(v:Value):Option (Int×Int)→Prop
 | none=>v= .nilIface
 | some (c,a)=>v= .iface t (.agg #[iV c,iV a])
def IN{α:Type}(p:Rp α)(E:LH)(v:Value):Option α→Prop
 | none=>v= .pointer none
 | some x=>∃bk o us,v= .pointer (some ⟨bk,o,none⟩)∧At E bk o us∧p.r E us x
theorem IN.Ad{α:Type}{p:Rp α}{E E':LH}{v:Value}{d:Option α}(h:IN p E v d)(hle:Le E E'):IN p E' v d:=by
 cases d with
 | none=>exact h
 | some x=>obtain⟨bk,o,us,K,O,U⟩:=h;exact⟨bk,o,us,K,O.Ad hle,p.Ad hle U⟩
theorem At.tail{E:LH}{bk o:Nat}{l ws:Lv_}(h:At E bk o (l++ws)):At E bk (o+l.length) ws:=by
 obtain⟨f,e,fr,K,O⟩:=h;refine⟨f,e,fr,K,fun j w U=>?_⟩;rw [Nat.add_assoc];refine O _ _ ?_;rw [List.getElem?_append_right (by omega)];rw [show l.length+j - l.length=j by omega];exact U
theorem PS{α:Type}{kk:Nat}{pp:Rp α}{E:LH}{bk o:Nat}{ws:Lv_}{xs:List α}{m:Int}{x:α}(U:(rA kk pp).r E ws xs)(h:At E bk o ws)(hm:ix xs m=some x):∃us,pp.r E us x∧At E bk (o+m.toNat*pp.n) us∧0≤m∧m<kk:=by
 obtain⟨V,K,rfl,Y,O⟩:=U;obtain⟨m,rfl,hm⟩:=Gt hm;have ab:m<xs.length:=(List.getElem?_eq_some_iff.1 hm).1;have hw:K[m]? =some K[m]:=List.getElem?_eq_getElem (by omega);refine⟨K[m],O m x _ hm hw,?_,by omega,by omega⟩;obtain⟨f,e,fr,Z,g2⟩:=h;refine⟨f,e,fr,Z,fun j w aa=>?_⟩;rw [Nat.add_assoc];exact g2 _ _ (H3 (GM (Y.trans V.symm) O) hw j w aa)
section
variable {P:Program}{s:St}{ρ:Operand→Value}{x y z:Operand}{d:Option Tmp}{t u ty e:TypeId}{p:String}{af:Ae_}{g:On_}{v v':Value}
theorem NK{ms:Array (String×TypeId)}{K:TypeId}{o:Option (Int×Int)}{n:Nat}(O:P.underlying t=some (.interface ms))(he:G8 K v o){Q:Bool→St→Prop}{X:Halt→St→Prop}(k:Q o.isNone s):lp P (Op.equalIn (n+1) t v .nilIface) s Q X:=by
 unfold Op.equalIn;refine Ay _ _ (CY O ?_);cases o with
 | none=>obtain rfl:v= .nilIface:=he;exact k
 | some q=>obtain⟨c,a⟩:=q;obtain rfl:v= .iface K (.agg #[iV c,iV a]):=he;exact k
theorem LY{ms:Array (String×TypeId)}{K:TypeId}{o:Option (Int×Int)}(O:P.underlying t=some (.interface ms))(he:G8 K v o)(U:ρ x=v)(V:ρ (.const .nilIface)= .nilIface):Yl P ⟨d,.binOp .neq t x (.const .nilIface) u,ty,p,af,g⟩ ρ s (.bool o.isSome):=by
 refine El (sm:=do eqGuard .neq t x (.const .nilIface) (ρ x) (ρ (.const .nilIface));binOp .neq t (ρ x) (ρ (.const .nilIface))) rfl ?_
 rw [U,V];have hg:lp P (eqGuard .neq t x (.const .nilIface) v .nilIface) s (fun _ s'=>s'=s) (fun _ _=>False):=by
  cases o with
  | none=>obtain rfl:v= .nilIface:=he;simp [eqGuard,lp,pure]
  | some q=>obtain⟨c,a⟩:=q;obtain rfl:v= .iface K (.agg #[iV c,iV a]):=he;simp [eqGuard,lp,pure]
 refine Ay _ _ (CO _ hg ?_ (fun _ _ h=>h));rintro _ _ rfl;have hb:binOp .neq t v .nilIface=(do pure (.bool (!(← Op.equal t v .nilIface)))):=by
  cases o with
  | none=>obtain rfl:v= .nilIface:=he;rfl
  | some q=>obtain⟨c,a⟩:=q;obtain rfl:v= .iface K (.agg #[iV c,iV a]):=he;rfl
 rw [hb];refine Ay (x:=Op.equal t v .nilIface) _ ?_;unfold Op.equal Op.maxDepth;refine NK O he ?_;refine⟨?_,rfl⟩;cases o <;> rfl
theorem NY{ms:Array (String×TypeId)}{K:TypeId}{o:Option (Int×Int)}(O:P.underlying t=some (.interface ms))(he:G8 K v o)(U:ρ x=v)(V:ρ (.const .nilIface)= .nilIface):Yl P ⟨d,.binOp .eql t x (.const .nilIface) u,ty,p,af,g⟩ ρ s (.bool o.isNone):=by
 refine El (sm:=do eqGuard .eql t x (.const .nilIface) (ρ x) (ρ (.const .nilIface));binOp .eql t (ρ x) (ρ (.const .nilIface))) rfl ?_
 rw [U,V];have hg:lp P (eqGuard .eql t x (.const .nilIface) v .nilIface) s (fun _ s'=>s'=s) (fun _ _=>False):=by
  cases o with
  | none=>obtain rfl:v= .nilIface:=he;simp [eqGuard,lp,pure]
  | some q=>obtain⟨c,a⟩:=q;obtain rfl:v= .iface K (.agg #[iV c,iV a]):=he;simp [eqGuard,lp,pure]
 refine Ay _ _ (CO _ hg ?_ (fun _ _ h=>h));rintro _ _ rfl;have hb:binOp .eql t v .nilIface=(do pure (.bool (← Op.equal t v .nilIface))):=by
  cases o with
  | none=>obtain rfl:v= .nilIface:=he;rfl
  | some q=>obtain⟨c,a⟩:=q;obtain rfl:v= .iface K (.agg #[iV c,iV a]):=he;rfl
 rw [hb];refine Ay (x:=Op.equal t v .nilIface) _ ?_;unfold Op.equal Op.maxDepth;refine NK O he ?_;refine⟨?_,rfl⟩
 rfl
end
end Pal
namespace Pal
open Go Go.Conc
section
variable {P:Program}{J:Judge P}{Q:Gs_}{b:Frame}{n:Nat}{ds:Ld_}{ops:Ao_}{k:Li_}{cs:Lf_}{L:Env}{E H:LH}{S:List Seg}
variable {d:Option Tmp}{x y:Operand}{t u ty e:TypeId}{p:String}{af:Ae_}{g:On_}{i:Nat}{rest:List Nat}{kd:IntKind}
theorem Me{α:Type}{pp:Rp α}{kk bk o:Nat}{l ws:Lv_}{xs:List α}{xv:α}{m:Int}(O:At E bk o (l++ws))(U:(rA kk pp).r E ws xs)(hm:ix xs m=some xv)
  (V:ops[i]? =some ⟨d,.indexAddr t x y,ty,p,af,g⟩) (hw:A5 L ops ⟨d,.indexAddr t x y,ty,p,af,g⟩=some true) (Y:Ct b n ⟨d,.indexAddr t x y,ty,p,af,g⟩=true)
  (Z:ev L x=some (.pointer (some ⟨bk,o+l.length,none⟩))) (aa:ev L y=some (.int kd m)) (ht:P.underlying t=some (.array kk e)) (ab:Br P e=some pp.n)
  (h:∀o' us,pp.r E us xv→At E bk o' us→JL J Q b n (Ax L d (.pointer (some ⟨bk,o',none⟩))) ds (.inRegion ops rest::k) cs (Am E H S)):
  JL J Q b n L ds (.inRegion ops (i::rest)::k) cs (Am E H S):=by
 obtain⟨us,ac,ae,ag,ah⟩:=PS U O.tail hm;refine AY (v:= .pointer (some ⟨bk,o+l.length+m.toNat*pp.n,none⟩)) V hw Y (fun ρ K=>?_) (h _ us ac ae);have:=Ns (P:=P) (s:=Am E H S) (d:=d) (ty:=ty) (p:=p) (af:=af) (g:=g) ht ab (K x _ Z) (K y _ aa) ⟨ag,ah⟩;rw [Dq rfl] at this;exact this
end
end Pal
namespace Pal
open Go Go.Conc
section
variable {P:Program}{s:St}{ρ:Operand→Value}{x y z:Operand}{d:Option Tmp}{t u ty e:TypeId}{p:String}{af:Ae_}{g:On_}{v v':Value}
theorem Ic{t:TypeId}{cells:Aw}{off:Nat}{v:Value}(ht:CM P t=some false)(K:cells[off]? =some v){Q:Value→St→Prop}{X:Halt→St→Prop}(k:Q v s):lp P (part t cells off) s Q X:=by
 unfold part;refine Ay _ _ (I9 ht ?_);simp only [Bool.false_eq_true,if_false,K];exact k
theorem N1{n:Nat}{t:TypeId}{a b:Int}(ht:P.underlying t=some (.int .i64)){Q:Bool→St→Prop}{X:Halt→St→Prop}(k:Q (a==b) s):lp P (Op.equalIn (n+1) t (iV a) (iV b)) s Q X:=by
 unfold Op.equalIn;refine Ay _ _ (CY ht ?_);simp only [if_true];exact k
theorem SW{n:Nat}{f1 f2:Field}{a b O U:Int}(ht:P.underlying t=some (.struct #[f1,f2]))(hs:P.stoodInHeld t=false)(n1:f1.name≠ "_")(n2:f2.name≠ "_")(u1:P.underlying f1.type=some (.int .i64))(u2:P.underlying f2.type=some (.int .i64))(o1:f1.offset=0)(o2:f2.offset=1)
  {Q:Bool→St→Prop} {X:Halt→St→Prop} (k:Q (decide (a=O∧b=U)) s):lp P (Op.equalIn (n+2) t (.agg #[iV a,iV b]) (.agg #[iV O,iV U])) s Q X:=by
 unfold Op.equalIn;refine Ay _ _ (CY ht ?_);refine Ay (x:=program) _ ?_;show lp P (if P.stoodInHeld t=true then _ else _) s _ _
 rw [if_neg (by rw [hs];exact Bool.false_ne_true)];have Z:CM P f1.type=some false:=by unfold CM;rw [u1]
 have aa:CM P f2.type=some false:=by unfold CM;rw [u2]
 let ab:Field→Option Bool×Unit→Sem (ForInStep (Option Bool×Unit)):=fun f _=>if f.name≠ "_" then do
   if !(← Op.equalIn (n+1) f.type (← part f.type #[iV a,iV b] f.offset) (← part f.type #[iV O,iV U] f.offset)) then pure (ForInStep.done (some false,())) else pure (ForInStep.yield (none,()))
  else pure (ForInStep.yield (none,()))
 have ac:∀{K:ForInStep (Option Bool×Unit)→St→Prop} (o:Option Bool×Unit),K (if a=O then .yield (none,()) else .done (some false,())) s→lp P (ab f1 o) s K X:=by
  intro K o V;show lp P (if f1.name≠ "_" then _ else _) s K X
  rw [if_pos n1,o1];refine Ay _ _ (Ic (v:=iV a) Z rfl ?_);refine Ay _ _ (Ic (v:=iV O) Z rfl ?_);refine Ay _ _ (N1 u1 ?_);by_cases h:a=O
  ·subst h;simpa [lp,pure] using V
  ·rw [if_neg h] at V;simpa [lp,pure,h] using V
 have ae:∀{K:ForInStep (Option Bool×Unit)→St→Prop} (o:Option Bool×Unit),K (if b=U then .yield (none,()) else .done (some false,())) s→lp P (ab f2 o) s K X:=by
  intro K o V;show lp P (if f2.name≠ "_" then _ else _) s K X
  rw [if_pos n2,o2];refine Ay _ _ (Ic (v:=iV b) aa rfl ?_);refine Ay _ _ (Ic (v:=iV U) aa rfl ?_);refine Ay _ _ (N1 u2 ?_);by_cases h:b=U
  ·subst h;simpa [lp,pure] using V
  ·rw [if_neg h] at V;simpa [lp,pure,h] using V
 dsimp only;rw [← Array.forIn_toList];simp only [List.forIn_cons,List.forIn_nil];refine Ay _ _ (Ay _ _ (ac (none,()) ?_));by_cases h:a=O
 ·rw [if_pos h];refine Ay _ _ (ae (none,()) ?_);by_cases Y:b=U
  ·rw [if_pos Y];simpa [lp,pure,h,Y] using k
  ·rw [if_neg Y];simpa [lp,pure,h,Y] using k
 ·rw [if_neg h];simpa [lp,pure,h] using k
structure US (P:Program) (t:TypeId) (f1 f2:Field):Prop where
 ht:P.underlying t=some (.struct #[f1,f2])
 hs:P.stoodInHeld t=false
 hg:P.eqGuardType P.depth t=false
 n1:f1.name≠ "_"
 n2:f2.name≠ "_"
 u1:P.underlying f1.type=some (.int .i64)
 u2:P.underlying f2.type=some (.int .i64)
 o1:f1.offset=0
 o2:f2.offset=1
def Qc(P:Program)(t:TypeId):Prop:=∃f1 f2,US P t f1 f2
theorem Nt{o:BinOp}{c K:Aw}(O:o= .eql∨o= .neq)(hg:P.eqGuardType P.depth t=false){Q:Unit→St→Prop}{X:Halt→St→Prop}(k:Q () s):lp P (eqGuard o t x y (.agg c) (.agg K)) s Q X:=by
 rcases O with rfl | rfl <;> (simp [eqGuard,lp,bind,Sem.bind,program,pure,hg];exact k)
theorem Km{a b K O:Int}(U:Qc P t)(V:ρ x= .agg #[iV a,iV b])(Y:ρ y= .agg #[iV K,iV O]):Yl P ⟨d,.binOp .neq t x y u,ty,p,af,g⟩ ρ s (.bool (decide (¬(a=K∧b=O)))):=by
 obtain⟨f1,f2,h⟩:=U;refine El (sm:=do eqGuard .neq t x y (ρ x) (ρ y);binOp .neq t (ρ x) (ρ y)) rfl ?_
 rw [V,Y];refine Ay _ _ (Nt (.inr rfl) h.hg ?_);have hb:binOp .neq t (.agg #[iV a,iV b]) (.agg #[iV K,iV O])=(do pure (.bool (!(← Op.equal t (.agg #[iV a,iV b]) (.agg #[iV K,iV O]))))):=rfl
 rw [hb];refine Ay (x:=Op.equal t _ _) _ ?_;unfold Op.equal Op.maxDepth;exact SW h.ht h.hs h.n1 h.n2 h.u1 h.u2 h.o1 h.o2 ⟨by simp,rfl⟩
end
end Pal
namespace Pal
open Go Go.Conc
section
variable {P:Program}(J:Judge P)(Q:Gs_)(b:Frame)(n:Nat)(ds:Ld_)(ops:Ao_)(k:Li_)(cs:Lf_)(m:Nat)(D:Nat→Bool)
def Take(fuel:Nat)(listed:Array Bool)(L:Env)(s:St)(i:Nat):Prop:=
 ∃o,ops[i]? =some o∧(!CV o.op)=true∧Bs n o.dst=true∧A5 L ops o=some true∧∀ρ,DJ L ρ→lp P (execOp ρ o) (Bu D s) (fun O s'=>match O with
  | .value v=>AQ J Q b n ds ops k cs m D fuel (A4 listed i) (Ax L o.dst v) (Cp D s s')
  | .skip=>AQ J Q b n ds ops k cs m D fuel (A4 listed i) (Ax L o.dst undef) (Cp D s s')
  | .enter f args=>∃R,Dt J f args (Cp D s s') R∧∀v K,R v K→K.q=false∧(∀x o,(Bu D s).E x=some o→(Bu D K).E x=some o)∧AQ J Q b n ds ops k cs m D fuel (A4 listed i) (Ax L o.dst v) K
  | _=>False) (fun _ _=>False)
end
section
variable {P:Program}{J:Judge P}{Q:Gs_}{b:Frame}{n:Nat}{ds:Ld_}{ops:Ao_}{k:Li_}{cs:Lf_}{m fuel:Nat}{D:Nat→Bool}{listed:Array Bool}{L:Env}{s:St}{E E' H:LH}{S:List Seg}
variable {d:Option Tmp}{x y:Operand}{t u ty e:TypeId}{p:String}{af:Ae_}{g:On_}{v:Value}{i:Nat}{kd:IntKind}
theorem Ke(U:s.q=false){l:List Nat}(K:Region.ready .any ops listed=l)(V:l≠ [])(h:∀i∈l,Take J Q b n ds ops k cs m D fuel listed L s i):AQ J Q b n ds ops k cs m D (fuel+1) listed L s:=
 Og U (by rw [K];exact V) fun i hi o O=>by
  rw [K] at hi
  obtain⟨o',Y,Z,aa,ab,ac⟩:=h i hi
  obtain rfl:o'=o:=by rw [Y] at O;exact Option.some.inj O
  exact⟨Z,aa,true,ab,fun e=>(by cases e),fun _=>ac⟩
theorem JG.one(K:s.q=false)(O:Region.ready .any ops listed= [i])(h:Take J Q b n ds ops k cs m D fuel listed L s i):AQ J Q b n ds ops k cs m D (fuel+1) listed L s:=
 Ke K O (by simp) (by simpa using h)
theorem Cy{i j:Nat}(K:s.q=false)(O:Region.ready .any ops listed= [i,j])(hi:Take J Q b n ds ops k cs m D fuel listed L s i)(U:Take J Q b n ds ops k cs m D fuel listed L s j):AQ J Q b n ds ops k cs m D (fuel+1) listed L s:=
 Ke K O (by simp) (by intro q K;simp at K;rcases K with rfl | rfl <;> assumption)
def plus(E:LH)(bk:Nat)(o:Obj):LH:=fun x=>if x=bk then Option.some o else E x
theorem S8{jp bk:Nat}{o:Obj}(Z:Ar E H S)(aa:S[jp]? =Option.some [(bk,o)]):Bu (AX [bk]) (Am E H S)=Am (plus E bk o) H (S.set jp [])∧Ar (plus E bk o) H (S.set jp []):=by
 obtain⟨ac,V⟩:=EL Z aa;have Y:=Nd.iff.1 V;have aj:E bk=Option.none:=(Y.2 (bk,o) (by simp)).1;have ae:H bk=Option.none:=(Y.2 (bk,o) (by simp)).2;have ab:∀q∈(S.set jp []).flatten,q.1≠bk:=fun q O e=>by
  have:=Y.1;rw [List.map_append,List.nodup_append] at this;exact this.2.2 q.1 (List.mem_map_of_mem O) bk (by simp) e
 have ag:(Am E H S).get bk=Option.some o:=D5 (i:=0) Z aa rfl;have ah:∀x,x≠bk→A9 ((S.set jp []).flatten++ [(bk,o)]) H x=A9 (S.set jp []).flatten H x:=fun x K=>by
  rw [show A9 ((S.set jp []).flatten++ [(bk,o)]) H=A9 ([(bk,o)]++(S.set jp []).flatten) H from IZ V List.perm_append_comm];simp [A9,K]
 refine⟨?_,?_⟩
 ·unfold Bu;have ai:(fun x=>if AX [bk] x=true then(Am E H S).get x else(Am E H S).E x)=plus E bk o:=by
   funext x;unfold plus;by_cases K:x=bk
   ·subst K;simp [AX,ag]
   ·simp [AX,K];rfl
  have e2:(fun x=>if AX [bk] x=true then Option.none else(Am E H S).H x)=A9 (S.set jp []).flatten H:=by
   funext x;by_cases K:x=bk
   ·subst K;simp [AX];rw [I6 ab,ae]
   ·simp only [AX,List.contains_cons,List.contains_nil,Bool.or_false,beq_iff_eq,if_neg K];rw [ac];exact ah x K
  rw [ai,e2];rfl
 ·have U:Nd E H (S.set jp []).flatten:=Hh.Nd.left V;show Nd _ H (S.set jp []).flatten;rw [Nd.iff] at U ⊢;exact⟨U.1,fun q O=>⟨by unfold plus;rw [if_neg (ab q O)];exact(U.2 q O).1,(U.2 q O).2⟩⟩
theorem Rs{jp bk:Nat}{o:Obj}{S':List Seg}(ag:Ar E H S)(ah:S[jp]? =Option.some [(bk,o)])(ai:Ar (plus E bk o) H S')(V:S'[jp]? =Option.some []):Cp (AX [bk]) (Am E H S) (Am (plus E bk o) H S')=Am E H (S'.set jp [(bk,o)])∧Ar E H (S'.set jp [(bk,o)]):=by
 obtain⟨aj,aa⟩:=EL ag ah;have ab:=Nd.iff.1 aa;have ak:E bk=Option.none:=(ab.2 (bk,o) (by simp)).1;have al:H bk=Option.none:=(ab.2 (bk,o) (by simp)).2;have Y:(S'.set jp []).flatten=S'.flatten:=by
  have:S'.set jp []=S':=by
   apply List.ext_getElem?;intro q;rw [List.getElem?_set];split
   ·rename_i e;subst e;rw [V,if_pos (List.getElem?_eq_some_iff.1 V).1]
   ·rfl
  rw [this]
 have U:=Nd.iff.1 (show Nd _ H S'.flatten from ai);have ac:∀q∈S'.flatten,q.1≠bk:=fun q K e=>by
  have:=(U.2 q K).1;unfold plus at this;rw [if_pos e] at this;cases this
 have Z:Nd E H ((S'.set jp []).flatten++ [(bk,o)]):=by
  rw [Y,Nd.iff,List.map_append,List.nodup_append];refine⟨⟨U.1,by simp,fun x O y ae e=>?_⟩,fun q K=>?_⟩
  ·obtain⟨q,K,rfl⟩:=List.mem_map.1 O;simp at ae;subst ae;exact ac q K e
  ·rcases List.mem_append.1 K with K | K
   ·refine⟨?_,(U.2 q K).2⟩;have:=(U.2 q K).1;unfold plus at this
    rwa [if_neg (ac q K)] at this
   ·simp at K;subst K;exact⟨ak,al⟩
 obtain⟨am,an⟩:=F9 (seg':= [(bk,o)]) V Z;refine⟨?_,an⟩;rw [← am,Y];unfold Cp Am mk;congr 1
 ·funext x;show(if AX [bk] x=true then E x else plus E bk o x)=E x
  by_cases O:x=bk
  ·subst O;simp [AX]
  ·simp [AX,O,plus]
 ·funext x;show(if AX [bk] x=true then(Am E H S).H x else A9 S'.flatten H x)=A9 (S'.flatten++ [(bk,o)]) H x
  have ao:A9 (S'.flatten++ [(bk,o)]) H=A9 ([(bk,o)]++S'.flatten) H:=IZ (by rw [Y] at Z;exact Z) List.perm_append_comm;rw [ao];by_cases O:x=bk
  ·subst O;simp only [AX,List.contains_cons,beq_self_eq_true,Bool.true_or,if_true,List.cons_append,List.nil_append,A9];rw [aj];show A9 ((S.set jp []).flatten++ [(x,o)]) H x=_;rw [show A9 ((S.set jp []).flatten++ [(x,o)]) H=A9 ([(x,o)]++(S.set jp []).flatten) H from IZ aa List.perm_append_comm];simp [A9]
  ·simp [AX,O,A9]
end
end Pal
namespace Pal
open Go Go.Conc
theorem OL.UY{α:Type}{e:TypeId}{pp:Rp α}{E0 E H:LH}{S:List Seg}{a:Option Addr}{c j:Nat}{seg:Seg}{xs:List α}(hg:OL e pp E0 a c seg xs)(Z:Ar E H S)(aa:S[j]? =some seg):∃K:List (Lv_),FP (Am E H S) (.slice a xs.length c) pp.n K.flatten∧K.length=xs.length∧∀(i:Nat) x ws,xs[i]? =some x→K[i]? =some ws→pp.r E0 ws x:=by
 obtain⟨K,hg,ab,ac⟩:=hg;refine⟨K,?_,ab,ac⟩;rcases hg with⟨rfl,ae,Y,V,O⟩ | ⟨bk,f,rfl,rfl,Y,V,O⟩
 ·exact⟨ae,O⟩
 ·have hle:xs.length*pp.n≤f.size:=by rw [Y];exact Nat.mul_le_mul_right _ V
  refine⟨.inl rfl,by rw [O];simp [hle],V,fun q w U=>?_⟩;rw [O,List.getElem?_take] at U;split at U
  ·refine Cu Z aa ?_;simpa using U
  ·cases U
section
variable {P:Program}{E H:LH}{S:List Seg}{d:Option Tmp}{x y:Operand}{t ty e:TypeId}{p:String}{af:Ae_}{g:On_}
theorem TI{E0:LH}{ρ:Operand→Value}{K:Next→St→Prop}{α:Type}{pp:Rp α}{t1:TypeId}{aj c cx:Nat}{a ax:Option Addr}{seg:Seg}{xs ys ak:List α}{ats:Array TypeId}{z:Value}(j:Nat)(ag:Ff xs ys=some ak)
  (az:ρ x= .slice a xs.length c) (aA:ρ y= .slice ax ys.length cx) (aB:ats[0]? =some t) (aC:ats[1]? =some t1) (ht:P.underlying t=some (.slice e)) (aD:P.underlying t1=some (.slice e)) (aE:Br P e=some pp.n) (hb:D6 P e=some aj) (aF:zeroOf P e=some z) (aG:z.cells.size=pp.n)
  (aH:0<aj) (aI:aj≤64) (hg:OL e pp E0 a c seg xs) (aJ:∃V:List (Lv_),FP (Am E H S) (.slice ax ys.length cx) pp.n V.flatten∧V.length=ys.length∧∀(i:Nat) x ws,ys[i]? =some x→V[i]? =some ws→pp.r E0 ws x) (aK:Ar E H S) (ar:S[j]? =some seg)
  (h:∀U O g seg',OL e pp E0 U O seg' ak→Ar E H (S.set j (g++seg'))→K (.value (.slice U ak.length O)) (Am E H (S.set j (g++seg')))):
  lp P (execOp ρ ⟨d,.call ⟨.builtin .append,#[x,y],ats⟩,ty,p,af,g⟩) (Am E H S) K (fun _ _=>False):=by
 unfold Ff at ag;split at ag
 rotate_left
 ·cases ag
 rename_i aL;cases ag;obtain⟨V,au,ah,al⟩:=aJ;obtain⟨am,hg,av,aM⟩:=hg;obtain⟨aN,an⟩:=EL aK ar;have aO:=GM ah al;have aP:∀w∈V.flatten,AL w=true:=fun w hw=>by
  obtain⟨us,aQ,hw⟩:=List.mem_flatten.1 hw;obtain⟨q,aw⟩:=List.mem_iff_getElem?.1 aQ;have aR:q<ys.length:=by rw [← ah];exact(List.getElem?_eq_some_iff.1 aw).1
  exact pp.one (al q _ us (List.getElem?_eq_getElem aR) aw) w hw
 have hlen:(xs++ys).length=xs.length+ys.length:=by simp
 rw [aN] at au ⊢;rw [Ka,az,aA];have ao:∀{U O seg'},GS e pp.n U (xs.length+ys.length) O seg' (am.flatten++V.flatten)→OL e pp E0 U O seg' (xs++ys):=fun aS=>
  ⟨am++V,by rw [hlen,List.flatten_append];exact aS,by simp [av,ah],LO av aM al⟩
 have fin:∀U O g seg',OL e pp E0 U O seg' (xs++ys)→Nd E H ((S.set j []).flatten++(g++seg'))→K (.value (.slice U (xs.length+ys.length) O)) (mk E H ((S.set j []).flatten++(g++seg'))):=fun U O g seg' aT Y=>by
  obtain⟨aU,aV⟩:=F9 ar Y;rw [aU];have:=h U O g seg' aT aV;rw [hlen] at this;exact this
 have aW:K9 ((S.set j []).flatten++seg) (S.set j []).flatten.length e pp.n a xs.length c am.flatten:=by
  rcases hg with⟨q1,q2,ae,aa,ab⟩ | ⟨bk,f,q1,q2,ae,aa,ab⟩
  ·exact .inl ⟨q1,q2,ae,ab⟩
  ·refine .inr ⟨bk,f,q1,?_,ae,aa,ab⟩;subst q2;simp
 refine Ay _ _ (LR (pl:=(S.set j []).flatten.length) aB aC aD ht aE hb aF aG an aW au aP aH aL aI ?_ ?_ ?_)
 ·intro bk f Z ai a3 a4 aX ap aq Y;rcases hg with⟨q1,_⟩ | ⟨ac,f0,q1,q2,ae,aa,ab⟩
  ·rw [q1] at ai;cases ai
  ·subst q2;have aY:ac=bk:=by rw [q1] at ai;simpa using ai
   subst aY;have aZ:((S.set j []).flatten++ [(ac,Obj.cells f0 e (0,0))]).set (S.set j []).flatten.length (ac,.cells Z e (0,0))=(S.set j []).flatten++ [(ac,.cells Z e (0,0))]:=Gq _ _ _ _;rw [aZ] at Y ⊢;exact fin a c [] _ (ao (.inr ⟨ac,Z,q1,rfl,ap,aX,aq.symm⟩)) Y
 ·intro ay hm;rcases hg with⟨q1,q2,ae,aa,ab⟩ | ⟨ac,f0,q1,_⟩
  ·have a0:V.flatten= []:=List.eq_nil_of_length_eq_zero (by rw [Kc aO,ah,hm];simp);have:=fin none 0 [] [] (ao (by rw [q2,hm,ab,a0];exact GS.nil)) (by rw [aa] at an;simpa using an);rw [q2,hm] at this;rw [aa];simp only [List.append_nil] at this ⊢;exact this
  ·rw [q1] at ay;cases ay
 ·intro r Z O a1 ap aq Y;have a2:(S.set j []).flatten++seg++ [(r,Obj.cells Z e (0,0))]=(S.set j []).flatten++(seg++ [(r,.cells Z e (0,0))]):=List.append_assoc _ _ _;rw [a2] at Y ⊢;exact fin (some ⟨r,0,none⟩) O seg _ (ao (.inr ⟨r,Z,rfl,rfl,ap,a1,aq.symm⟩)) Y
theorem O7{E0:LH}{ρ:Operand→Value}{K:Next→St→Prop}{α:Type}{pp:Rp α}{t1:TypeId}{O c cx:Nat}{a ax:Option Addr}{seg V:Seg}{xs ys U:List α}{ats:Array TypeId}{z:Value}(j ab:Nat)(ac:Ff xs ys=some U)
  (ae:ρ x= .slice a xs.length c) (ag:ρ y= .slice ax ys.length cx) (ah:ats[0]? =some t) (ai:ats[1]? =some t1) (ht:P.underlying t=some (.slice e)) (aj:P.underlying t1=some (.slice e)) (ak:Br P e=some pp.n) (hb:D6 P e=some O) (al:zeroOf P e=some z) (am:z.cells.size=pp.n)
  (an:0<O) (ao:O≤64) (hg:OL e pp E0 a c seg xs) (ap:OL e pp E0 ax cx V ys) (Y:Ar E H S) (aq:S[j]? =some seg) (ar:S[ab]? =some V)
  (h:∀Z aa g seg',OL e pp E0 Z aa seg' U→Ar E H (S.set j (g++seg'))→K (.value (.slice Z U.length aa)) (Am E H (S.set j (g++seg')))):
  lp P (execOp ρ ⟨d,.call ⟨.builtin .append,#[x,y],ats⟩,ty,p,af,g⟩) (Am E H S) K (fun _ _=>False):=
 TI j ac ae ag ah ai ht aj ak hb al am an ao hg (ap.UY Y ar) Y aq h
end
section
variable {P:Program}{J:Judge P}{Q:Gs_}{b:Frame}{n:Nat}{ds:Ld_}{ops:Ao_}{k:Li_}{cs:Lf_}{m fuel:Nat}{D:Nat→Bool}{listed:Array Bool}{L:Env}{s:St}{E E' H:LH}{S:List Seg}
variable {d:Option Tmp}{x y:Operand}{t u ty e:TypeId}{p:String}{af:Ae_}{g:On_}{v:Value}{i:Nat}{kd:IntKind}
theorem Take.Bu{jp bk:Nat}{o:Obj}{oi:Oper}(O:Ar E H S)(U:S[jp]? =some [(bk,o)])(hi:ops[i]? =some oi)(K:(!CV oi.op&&Bs n oi.dst)=true)(hw:A5 L ops oi=some true)
  (h:∀ρ,DJ L ρ→Ar (plus E bk o) H (S.set jp [])→lp P (execOp ρ oi) (Am (plus E bk o) H (S.set jp [])) (fun V s'=>∃v S',V= .value v∧s'=Am (plus E bk o) H S'∧Ar (plus E bk o) H S'∧S'[jp]? =some []∧
   (Ar E H (S'.set jp [(bk,o)])→AQ J Q b n ds ops k cs m (AX [bk]) fuel (A4 listed i) (Ax L oi.dst v) (Am E H (S'.set jp [(bk,o)])))) (fun _ _=>False)):
  Take J Q b n ds ops k cs m (AX [bk]) fuel listed L (Am E H S) i:=by
 simp only [Bool.and_eq_true] at K;refine⟨oi,hi,K.1,K.2,hw,fun ρ Y=>?_⟩;obtain⟨Z,aa⟩:=S8 O U;rw [Z];refine CO _ (h ρ Y aa) ?_ (fun _ _ h=>h);rintro V s' ⟨v,S',rfl,rfl,ab,ac,ae⟩;obtain⟨ag,ah⟩:=Rs O U ab ac;show AQ J Q b n ds ops k cs m (AX [bk]) fuel (A4 listed i) (Ax L oi.dst v) (Cp (AX [bk]) (Am E H S) (Am (plus E bk o) H S'));rw [ag];exact ae ah
theorem Take.lit{jp bk:Nat}{o:Obj}{α:Type}{pp:Rp α}{len:Nat}{K:Array (Nat×Operand)}(vs:Lv_){z:Value}(xs:List α)(Y:Ar E H S)(O:S[jp]? =some [(bk,o)])
  (Z:ops[i]? =some ⟨d,.buildSlice t len K,ty,p,af,g⟩) (hw:A5 L ops ⟨d,.buildSlice t len K,ty,p,af,g⟩=some true) (aa:Bs n d=true)
  (ht:P.underlying t=some (.slice e)) (ab:Br P e=some pp.n) (ac:zeroOf P e=some z) (ae:decide (0<len*pp.n∧len*pp.n≤2 ^ 24)=true)
  (ag:K.toList.mapM (fun q=>(ev L q.2).map fun v=>(q.1,v))=some ((vs.zipIdx 0).map fun q=>(q.2,q.1)))
  (ah:vs.length=len) (ai:xs.length=len) (aj:Hu pp E xs vs)
  (h:∀r seg,OL e pp E (some ⟨r,0,none⟩) len seg xs→Ar E H (S++ [seg])→AQ J Q b n ds ops k cs m (AX [bk]) fuel (A4 listed i) (Ax L d (.slice (some ⟨r,0,none⟩) xs.length len)) (Am E H (S++ [seg]))):
  Take J Q b n ds ops k cs m (AX [bk]) fuel listed L (Am E H S) i:=by
 have U:jp<S.length:=(List.getElem?_eq_some_iff.1 O).1;refine Take.Bu Y O Z (by simp [CV,aa]) hw fun ρ ak al=>Mq ak vs xs ht ab ac ae ag ah ai aj al fun r seg am an=>⟨_,S.set jp []++ [seg],rfl,rfl,an,by rw [List.getElem?_append_left (by simpa using U)];simp [U],fun V=>?_⟩;have ao:(S.set jp []++ [seg]).set jp [(bk,o)]=S++ [seg]:=by
  rw [List.set_append_left _ _ (by simpa using U),List.set_set];congr 1;apply List.ext_getElem?;intro q;rw [List.getElem?_set];split
  ·rename_i e;subst e;rw [O]
  ·rfl
 rw [ao] at V ⊢;exact h r seg am V
theorem Take.app{jp bk:Nat}{o:Obj}{α:Type}{pp:Rp α}{t1:TypeId}{Y c cx:Nat}{a ax:Option Addr}{seg ac:Seg}{xs ys Z:List α}{ats:Array TypeId}{z:Value}(j K:Nat)(ah:Ar E H S)(aa:S[jp]? =some [(bk,o)])(ai:Ff xs ys=some Z)
  (aj:ops[i]? =some ⟨d,.call ⟨.builtin .append,#[x,y],ats⟩,ty,p,af,g⟩) (hw:A5 L ops ⟨d,.call ⟨.builtin .append,#[x,y],ats⟩,ty,p,af,g⟩=some true) (ak:Bs n d=true)
  (al:ev L x=some (.slice a xs.length c)) (am:ev L y=some (.slice ax ys.length cx)) (an:ats[0]? =some t) (ao:ats[1]? =some t1) (ht:P.underlying t=some (.slice e)) (ap:P.underlying t1=some (.slice e)) (aq:Br P e=some pp.n) (hb:D6 P e=some Y) (ar:zeroOf P e=some z) (au:z.cells.size=pp.n)
  (av:0<Y) (aw:Y≤64) (hg:OL e pp E a c seg xs) (ay:OL e pp E ax cx ac ys) (az:S[j]? =some seg) (aA:S[K]? =some ac) (aB:(j==jp)=false) (aC:(K==jp)=false)
  (h:∀O U g seg',OL e pp E O U seg' Z→Ar E H (S.set j (g++seg'))→AQ J Q b n ds ops k cs m (AX [bk]) fuel (A4 listed i) (Ax L d (.slice O Z.length U)) (Am E H (S.set j (g++seg')))):
  Take J Q b n ds ops k cs m (AX [bk]) fuel listed L (Am E H S) i:=by
 have aD:jp<S.length:=(List.getElem?_eq_some_iff.1 aa).1;have ab:j≠jp:=by simpa using aB
 have aE:K≠jp:=by simpa using aC
 refine Take.Bu ah aa aj (by simp [CV,ak]) hw fun ρ ae aF=>O7 j K ai (ae _ _ al) (ae _ _ am) an ao ht ap aq hb ar au av aw hg ay aF (by rw [List.getElem?_set_ne (Ne.symm ab)];exact az) (by rw [List.getElem?_set_ne (Ne.symm aE)];exact aA) fun O U V seg' aG aH=>⟨_,(S.set jp []).set j (V++seg'),rfl,rfl,aH,by rw [List.getElem?_set_ne ab];simp [aD],fun ag=>?_⟩;have aI:((S.set jp []).set j (V++seg')).set jp [(bk,o)]=S.set j (V++seg'):=by
  rw [List.set_comm _ _ ab,List.set_set];congr 1;apply List.ext_getElem?;intro q;rw [List.getElem?_set];split
  ·rename_i e;subst e;rw [aa]
  ·rfl
 rw [aI] at ag ⊢;exact h O U V seg' aG ag
end
end Pal
namespace Pal
open Go Go.Conc
section
variable {P:Program}{J:Judge P}{Q:Gs_}{b:Frame}{n:Nat}{ds:Ld_}{ops:Ao_}{k:Li_}{cs:Lf_}{m fuel:Nat}{D:Nat→Bool}{listed:Array Bool}{L:Env}{s:St}{E E' H:LH}{S:List Seg}
variable {d:Option Tmp}{x y:Operand}{t u ty e:TypeId}{p:String}{af:Ae_}{g:On_}{v:Value}{i:Nat}{kd:IntKind}
theorem Take.IL{oi:Oper}(hi:ops[i]? =some oi)(K:(!CV oi.op&&Bs n oi.dst)=true)(hw:A5 L ops oi=some true)
  (h:∀ρ,DJ L ρ→lp P (execOp ρ oi) s (fun O s'=>match O with
   | .value v=>AQ J Q b n ds ops k cs m CQ fuel (A4 listed i) (Ax L oi.dst v) s'
   | .skip=>AQ J Q b n ds ops k cs m CQ fuel (A4 listed i) (Ax L oi.dst undef) s'
   | _=>False) (fun _ _=>False)):Take J Q b n ds ops k cs m CQ fuel listed L s i:=by
 simp only [Bool.and_eq_true] at K
 refine⟨oi,hi,K.1,K.2,hw,fun ρ V=>CO _ (h ρ V) ?_ (fun _ _ h=>h)⟩
 intro O s' U
 cases O with
 | value v=>exact U
 | skip=>exact U
 | _=>exact U.elim
theorem Take.BD{α:Type}{pp:Rp α}{len:Nat}{K:Array (Nat×Operand)}(vs:Lv_){z:Value}(xs:List α)(O:Ar E H S)
  (U:ops[i]? =some ⟨d,.buildSlice t len K,ty,p,af,g⟩) (hw:A5 L ops ⟨d,.buildSlice t len K,ty,p,af,g⟩=some true) (V:Bs n d=true)
  (ht:P.underlying t=some (.slice e)) (Y:Br P e=some pp.n) (Z:zeroOf P e=some z) (aa:decide (0<len*pp.n∧len*pp.n≤2 ^ 24)=true)
  (ab:K.toList.mapM (fun q=>(ev L q.2).map fun v=>(q.1,v))=some ((vs.zipIdx 0).map fun q=>(q.2,q.1)))
  (ac:vs.length=len) (ae:xs.length=len) (ag:Hu pp E xs vs)
  (h:∀r seg,OL e pp E (some ⟨r,0,none⟩) len seg xs→Ar E H (S++ [seg])→AQ J Q b n ds ops k cs m CQ fuel (A4 listed i) (Ax L d (.slice (some ⟨r,0,none⟩) xs.length len)) (Am E H (S++ [seg]))):
  Take J Q b n ds ops k cs m CQ fuel listed L (Am E H S) i:=
 Take.IL U (by simp [CV,V]) hw fun ρ ah=>Mq ah vs xs ht Y Z aa ab ac ae ag O fun r seg ai aj=>h r seg ai aj
theorem Take.app0{α:Type}{pp:Rp α}{t1:TypeId}{U c cx:Nat}{a ax:Option Addr}{seg Y:Seg}{xs ys V:List α}{ats:Array TypeId}{z:Value}(j Z:Nat)(ab:Ar E H S)(ac:Ff xs ys=some V)
  (ae:ops[i]? =some ⟨d,.call ⟨.builtin .append,#[x,y],ats⟩,ty,p,af,g⟩) (hw:A5 L ops ⟨d,.call ⟨.builtin .append,#[x,y],ats⟩,ty,p,af,g⟩=some true) (ag:Bs n d=true)
  (ah:ev L x=some (.slice a xs.length c)) (ai:ev L y=some (.slice ax ys.length cx)) (aj:ats[0]? =some t) (ak:ats[1]? =some t1) (ht:P.underlying t=some (.slice e)) (al:P.underlying t1=some (.slice e)) (am:Br P e=some pp.n) (hb:D6 P e=some U) (an:zeroOf P e=some z) (ao:z.cells.size=pp.n)
  (ap:0<U) (aq:U≤64) (hg:OL e pp E a c seg xs) (ar:OL e pp E ax cx Y ys) (au:S[j]? =some seg) (av:S[Z]? =some Y)
  (h:∀K O g seg',OL e pp E K O seg' V→Ar E H (S.set j (g++seg'))→AQ J Q b n ds ops k cs m CQ fuel (A4 listed i) (Ax L d (.slice K V.length O)) (Am E H (S.set j (g++seg')))):
  Take J Q b n ds ops k cs m CQ fuel listed L (Am E H S) i:=
 Take.IL ae (by simp [CV,ag]) hw fun ρ aa=>O7 j Z ac (aa _ _ ah) (aa _ _ ai) aj ak ht al am hb an ao ap aq hg ar ab au av fun K O aw seg' ay az=>h K O aw seg' ay az
theorem Take.Pq{z:Value}(O:Ar E H S)(U:ops[i]? =some ⟨d,.alloc e,ty,p,af,g⟩)(hw:A5 L ops ⟨d,.alloc e,ty,p,af,g⟩=some true)(V:Bs n d=true)(Y:zeroOf P e=some z)
  (h:∀r,Ar E H (S++ [[(r,.cells z.cells e (0,0))]])→AQ J Q b n ds ops k cs m CQ fuel (A4 listed i) (Ax L d (.pointer (some ⟨r,0,none⟩))) (Am E H (S++ [[(r,.cells z.cells e (0,0))]]))):
  Take J Q b n ds ops k cs m CQ fuel listed L (Am E H S) i:=
 Take.IL U (by simp [CV,V]) hw fun ρ _=>by
  show lp P (do pure (Next.value (← Instr.alloc e true (.tuple #[])))) _ _ _
  refine Ay _ _ ?_
  unfold Instr.alloc
  refine Ay _ _ (FG Y ?_)
  refine Ay _ _ (GL O fun r K=>?_)
  rw [(Ee K).1]
  exact h r (Ee K).2
end
end Pal
namespace Pal
open Go Go.Conc
theorem Fv{α:Type}{kk:Nat}{pp:Rp α}{E:LH}{ws:Lv_}{xs:List α}(K:(rA kk pp).r E ws xs):ws.length=kk*pp.n:=(rA kk pp).len K
theorem Hj{α:Type}{kk:Nat}{pp:Rp α}{E:LH}{ws:Lv_}{xs:List α}{m:Int}{x:α}(U:(rA kk pp).r E ws xs)(hm:ix xs m=some x):∃us,pp.r E us x∧0≤m∧m<kk∧(∀j w,us[j]? =some w→ws[m.toNat*pp.n+j]? =some w):=by
 obtain⟨V,K,rfl,Y,O⟩:=U;obtain⟨m,rfl,hm⟩:=Gt hm;have aa:m<xs.length:=(List.getElem?_eq_some_iff.1 hm).1;have hw:K[m]? =some K[m]:=List.getElem?_eq_getElem (by omega);exact⟨K[m],O m x _ hm hw,by omega,by omega,fun j w Z=>H3 (GM (Y.trans V.symm) O) hw j w Z⟩
section
variable {P:Program}{J:Judge P}{Q:Gs_}{b:Frame}{n:Nat}{ds:Ld_}{ops:Ao_}{k:Li_}{cs:Lf_}{L:Env}{E H:LH}{S:List Seg}
variable {d:Option Tmp}{x y:Operand}{t u ty e:TypeId}{p:String}{af:Ae_}{g:On_}{i:Nat}{rest:List Nat}{kd:IntKind}{s:St}{ρ:Operand→Value}
theorem Ia{α:Type}{kk:Nat}{pp:Rp α}{a:Addr}{ws:Lv_}{xs:List α}(K:(rA kk pp).r E ws xs)(ht:CM P t=some true)(O:Br P t=some (kk*pp.n))(U:ρ x= .pointer (some a))(h:∀j v,ws[j]? =some v→s.cell? (a.add j)=some v):Yl P ⟨d,.load t x,ty,p,af,g⟩ ρ s (.agg ws.toArray):=
 EZ ht (by rw [Fv K];exact O) U h
theorem Pd{α:Type}{pp:Rp α}{kk:Nat}{ws:Lv_}{xs:List α}{xv:α}{m:Int}{O:Bool}(V:(rA kk pp).r E ws xs)(hm:ix xs m=some xv)
  (ag:ops[i]? =some ⟨d,.index t x y,ty,p,af,g⟩) (hw:A5 L ops ⟨d,.index t x y,ty,p,af,g⟩=some true) (ah:Ct b n ⟨d,.index t x y,ty,p,af,g⟩=true)
  (ai:ev L x=some (.agg ws.toArray)) (aj:ev L y=some (.int kd m)) (ht:P.underlying t=some (.array kk e)) (Y:Br P e=some pp.n) (ak:CM P e=some O)
  (h:∀us,pp.r E us xv→JL J Q b n (Ax L d (if O then .agg us.toArray else us.headD undef)) ds (.inRegion ops rest::k) cs s) (al:O=false→pp.n=1):
  JL J Q b n L ds (.inRegion ops (i::rest)::k) cs s:=by
 obtain⟨us,Z,am,an,aa⟩:=Hj V hm;have hlen:=pp.len Z;have ao:=Fv V;refine AY ag hw ah (fun ρ ab=>?_) (h us Z);refine El (sm:=Instr.index t (ρ x) (ρ y)) rfl ?_;rw [ab _ _ ai,ab _ _ aj];unfold Instr.index;simp only [asIntOf,GI];refine Ay (x:=underlying t) _ (CY ht ?_);simp only [am,an,and_self,if_true];refine Ay (x:=Go.sizeOf e) _ (En Y ?_);unfold Go.part;refine Ay (x:=isAgg e) _ (I9 ak ?_);have aq:m.toNat*pp.n+pp.n≤ws.length:=by
  rw [ao];have:(m.toNat+1)*pp.n≤kk*pp.n:=Nat.mul_le_mul_right _ (by omega);rw [Nat.succ_mul] at this;exact this
 cases O with
 | true=>
  simp only [if_true];refine Ay (x:=Go.sizeOf e) _ (En Y ?_);have ap:ws.toArray.extract (m.toNat*pp.n) (m.toNat*pp.n+pp.n)=us.toArray:=by
   apply Array.ext_getElem?;intro j;by_cases ac:j<us.length
   ·have U:=aa j us[j] (List.getElem?_eq_getElem ac);simp only [Array.getElem?_extract,List.size_toArray,List.getElem?_toArray];rw [if_pos (by omega),U];simp [ac]
   ·rw [Array.getElem?_eq_none (by simp;omega),Array.getElem?_eq_none (by simp;omega)]
  rw [ap];exact⟨rfl,rfl⟩
 | false=>
  have ae:=al rfl;obtain⟨w,rfl⟩:∃w,us= [w]:=by
   match us,hlen with
   | [w],_=>exact⟨w,rfl⟩
   | [],K=>rw [ae] at K;cases K
   | _::_::_,K=>rw [ae] at K;simp at K
  have U:=aa 0 w rfl;simp only [Bool.false_eq_true,if_false,List.getElem?_toArray];rw [Nat.add_zero] at U;rw [U];exact⟨rfl,rfl⟩
end
end Pal
namespace Pal
open Go Go.Conc
def Fw(S:List Seg):List Nat→Prop
 | []=>True
 | bk::bks=>(∃(j:Nat) (o:Obj),S[j]? =some [(bk,o)])∧Fw S bks
theorem Fw.mem{S:List Seg}:∀{bks:List Nat},Fw S bks→∀bk∈bks,∃(j:Nat) (o:Obj),S[j]? =some [(bk,o)]
 | [],_,_,h=>by cases h
 | b::bks,h,bk,hb=>by
  rcases List.mem_cons.1 hb with rfl | hb
  ·exact h.1
  ·exact h.2.mem bk hb
theorem Fw.free{E H:LH}{S:List Seg}{bks:List Nat}(h:Fw S bks)(K:Ar E H S):∀x,AX bks x=true→E x=none:=fun x O=>by
 obtain⟨j,o,U⟩:=h.mem x (by simpa [AX] using O)
 exact KX K U
section
variable {P:Program}{J:Judge P}{Q:Gs_}{b:Frame}{n:Nat}{ds:Ld_}{ops:Ao_}{k:Li_}{cs:Lf_}{m fuel:Nat}{D:Nat→Bool}{listed:Array Bool}{L:Env}{s:St}{E E' H:LH}{S:List Seg}
variable {d:Option Tmp}{x y:Operand}{t u ty e:TypeId}{p:String}{af:Ae_}{g:On_}{v:Value}{i:Nat}{kd:IntKind}
theorem NV{bks:List Nat}{f:FuncId}{args:Array Operand}{ats:Array TypeId}{vs:Lv_}{R:Value→LH→Seg→Prop}(ae:Fw S bks)(ag:AT J f vs E [] R)(ah:Region.ready .any ops listed= [i])
  (ai:ops[i]? =some ⟨d,.call ⟨.value (.func f),args,ats⟩,ty,p,af,g⟩) (aj:Bs n d=true) (hw:A5 L ops ⟨d,.call ⟨.value (.func f),args,ats⟩,ty,p,af,g⟩=some true) (hb:Dj P f=true) (ak:evs L args.toList=some vs) (Z:Ar E H S)
  (al:∀v E' seg',Le E E'→R v E' seg'→Ar E' H (S++ [seg'])→AQ J Q b n ds ops k cs m (AX bks) fuel (A4 listed i) (Ax L d v) (Am E' H (S++ [seg']))):
  AQ J Q b n ds ops k cs m (AX bks) (fuel+1) listed L (Am E H S):=by
 have am:=Dt.IC (ag (A9 S.flatten H) trivial) (by rintro v s' ⟨E',B',_,_,_,rfl⟩;rfl);refine AQ.call rfl ah ai aj hw hb ak am ?_;rintro v aw ⟨⟨E',B',hle,an,ao,rfl⟩,w,ap⟩;have e2:mk E' (A9 S.flatten H) B'=mk E' H (B'++S.flatten):=by unfold mk;rw [EY]
 have aq:Nd E' H S.flatten:=Nd.grow Z fun x O=>by
  have ar:=ap.d x O;have U:A9 B' (A9 S.flatten H) x=none:=ar;exact(F2 U).1
 have aa:Nd E' H (B'++S.flatten):=Nd.glue ao aq;have ab:(B'++S.flatten).Perm (S++ [B']).flatten:=by rw [F4];exact List.perm_append_comm
 have ac:Ar E' H (S++ [B']):=Nd.perm aa ab;rw [e2,Ep aa ab];refine⟨rfl,fun x o O=>?_,al v E' B' hle an ac⟩;by_cases V:AX bks x=true
 ·obtain⟨j,o',Y⟩:=ae.mem x (by simpa [AX] using V);have U:(Am E H S).get x=some o':=D5 (i:=0) Z Y rfl;have au:j<S.length:=(List.getElem?_eq_some_iff.1 Y).1;have av:(Am E' H (S++ [B'])).get x=some o':=D5 (i:=0) ac (by rw [List.getElem?_append_left au];exact Y) rfl;have K:(if AX bks x then(Am E H S).get x else E x)=some o:=O
  show(if AX bks x then(Am E' H (S++ [B'])).get x else E' x)=some o
  rw [if_pos V] at K ⊢;rw [av,← U];exact K
 ·have K:(if AX bks x then(Am E H S).get x else E x)=some o:=O
  show(if AX bks x then(Am E' H (S++ [B'])).get x else E' x)=some o
  rw [if_neg V] at K ⊢;exact hle _ _ K
theorem Ss(m:Nat)(bks:List Nat){id:Nat}(O:Fw S bks)(U:Ar E H S)(hm:P.follows .mixedOrders=true)(K:(b.kind != .early)=true)(ht:De ops m=true)
  (h:De ops m=true→AQ J Q b n ds ops k cs m (AX bks) ops.size (Array.replicate ops.size false) L (Am E H S)):JL J Q b n L ds (.code (.region id ops true)::k) cs (Am E H S):=
 N5 m (AX bks) rfl hm K (h ht)
theorem Jc{bks:List Nat}{bk o:Nat}{c:Aw}{f:Nat×Nat}{w:Value}{s':St}(j:Nat)(K:Ar E H S)(O:S[j]? =some [(bk,.cells c e f)])(U:AX bks bk=true)(hs:∀x o,(Bu (AX bks) (Am E H S)).E x=some o→s'.E x=some o)(hw:c[o]? =some w):s'.cell? ⟨bk,o,none⟩=some w:=by
 have V:(Bu (AX bks) (Am E H S)).E bk=some (.cells c e f):=by
  show(if AX bks bk then(Am E H S).get bk else E bk)=_
  rw [if_pos U];exact D5 (i:=0) K O rfl
 have Y:=hs _ _ V;unfold St.cell? St.get;rw [Y];exact hw
theorem RE{bks:List Nat}{bk o:Nat}{c:Aw}{f:Nat×Nat}{ws:Lv_}{s':St}(j:Nat)(O:Ar E H S)(U:S[j]? =some [(bk,.cells c e f)])(V:AX bks bk=true)(hs:∀x o,(Bu (AX bks) (Am E H S)).E x=some o→s'.E x=some o)(hw:(c.toList.drop o).take ws.length=ws):∀q w,ws[q]? =some w→s'.cell? (Addr.add ⟨bk,o,none⟩ q)=some w:=fun q w K=>by
 rw [Dq rfl]
 refine Jc j O U V hs ?_
 have Y:q<ws.length:=(List.getElem?_eq_some_iff.1 K).1
 rw [← hw,List.getElem?_take_of_lt Y,List.getElem?_drop,Array.getElem?_toList] at K
 exact K
theorem Mr{bks:List Nat}{s':St}(O:Ar E H S)(hs:∀x o,(Bu (AX bks) (Am E H S)).E x=some o→s'.E x=some o)(U:Fw S bks):∀x o,E x=some o→s'.E x=some o:=fun x o K=>hs x o (by
 show(if AX bks x then(Am E H S).get x else E x)=some o
 rw [if_neg (fun V=>by rw [U.free O x V] at K;cases K)];exact K)
end
end Pal
namespace Pal
open Go Go.Conc
theorem Od{P:Program}{s:St}{ρ:Operand→Value}{x y:Operand}{d:Option Tmp}{t ty e:TypeId}{p:String}{af:Ae_}{g:On_}{kd:IntKind}{α:Type}{xs:List α}{xv:α}{m:Int}{bk c K:Nat}(hm:ix xs m=some xv)(ht:P.underlying t=some (.slice e))(O:Br P e=some K)(U:ρ x= .slice (some ⟨bk,0,none⟩) xs.length c)(V:ρ y= .int kd m):
  Yl P ⟨d,.indexAddr t x y,ty,p,af,g⟩ ρ s (.pointer (some ⟨bk,m.toNat*K,none⟩)):=by
 obtain⟨m,rfl,hm⟩:=Gt hm;have Y:m<xs.length:=(List.getElem?_eq_some_iff.1 hm).1;have:=Kj (P:=P) (s:=s) (d:=d) (ty:=ty) (p:=p) (af:=af) (g:=g) ht O U V ⟨by omega,by omega⟩;rw [Dq rfl] at this;simpa using this
end Pal
namespace Pal
open Go Go.Conc
def GA(ws:Lv_)(q:Nat)(us:Lv_):Lv_:=(AI ws.toArray q us).toList
theorem Kk{ws us:Lv_}{q:Nat}(h:q+us.length≤ws.length)(j:Nat):(GA ws q us)[j]? =if q≤j∧j<q+us.length then us[j - q]? else ws[j]? :=by
 unfold GA;rw [Array.getElem?_toList,ND us _ q (by simpa using h)];simp
theorem QV{l ws us:Lv_}{q:Nat}(h:q+us.length≤ws.length):AI (l++ws).toArray (l.length+q) us=(l++GA ws q us).toArray:=by
 apply Array.ext_getElem?;intro j;rw [ND us _ _ (by simp;omega)];simp only [List.getElem?_toArray];by_cases O:l.length+q≤j∧j<l.length+q+us.length
 ·rw [if_pos O,List.getElem?_append_right (by omega),Kk h,if_pos (by omega)];congr 1;omega
 ·rw [if_neg O];rcases Nat.lt_or_ge j l.length with K | K
  ·rw [List.getElem?_append_left K,List.getElem?_append_left K]
  ·rw [List.getElem?_append_right K,List.getElem?_append_right K,Kk h,if_neg (by omega)]
theorem NP{ws us:Lv_}(h:us.length=ws.length):GA ws 0 us=us:=by
 apply List.ext_getElem?;intro j;rw [Kk (by omega)];split
 ·simp
 ·rename_i K;rw [List.getElem?_eq_none (by omega),List.getElem?_eq_none (by omega)]
theorem Kn{E H:LH}{S:List Seg}{bk:Nat}{l ws:Lv_}{e:TypeId}{f:Nat×Nat}(j:Nat)(K:Ar E H S)(O:S[j]? =some [(bk,.cells (l++ws).toArray e f)]):∀q v,ws[q]? =some v→(Am E H S).cell? (Addr.add ⟨bk,l.length,none⟩ q)=some v:=fun q v U=>by
 rw [Dq rfl]
 refine Cu K O ?_
 simp only [List.getElem?_toArray]
 rw [List.getElem?_append_right (by omega)]
 rw [show l.length+q - l.length=q by omega];exact U
theorem RJ{E H:LH}{S:List Seg}{bk o:Nat}{l ws:Lv_}{e:TypeId}{f:Nat×Nat}{w:Value}(j:Nat)(K:Ar E H S)(O:S[j]? =some [(bk,.cells (l++ws).toArray e f)])(U:ws[o]? =some w):(Am E H S).cell? ⟨bk,l.length+o,none⟩=some w:=by
 have:=Kn j K O o w U
 rwa [Dq rfl] at this
theorem Mn{α:Type}{kk:Nat}{pp:Rp α}{E:LH}{ws us:Lv_}{xs:List α}{m:Int}{x y:α}(Z:(rA kk pp).r E ws xs)(hm:ix xs m=some x)(hu:pp.r E us y):(rA kk pp).r E (GA ws (m.toNat*pp.n) us) (xs.set m.toNat y)∧m.toNat*pp.n+us.length≤ws.length:=by
 have aj:=Fv Z;obtain⟨aa,K,rfl,ab,ac⟩:=Z;obtain⟨m,rfl,hm⟩:=Gt hm;have ak:m<xs.length:=(List.getElem?_eq_some_iff.1 hm).1;have ae:=pp.len hu;have al:=GM (ab.trans aa.symm) ac;have ag:m*pp.n+us.length≤K.flatten.length:=by
  rw [aj,ae];have:(m+1)*pp.n≤kk*pp.n:=Nat.mul_le_mul_right _ (by omega);rw [Nat.succ_mul] at this;exact this
 simp only [Int.toNat_natCast];refine⟨⟨by simpa using aa,K.set m us,?_,by simpa using ab,fun i am an U V=>?_⟩,ag⟩
 ·apply List.ext_getElem?;intro j;rw [Kk ag];have key:∀(K:List (Lv_)) (m:Nat) (hm:m<K.length),(∀ws∈K,ws.length=pp.n)→∀j,(K.set m us).flatten[j]? =if m*pp.n≤j∧j<m*pp.n+us.length then us[j - m*pp.n]? else K.flatten[j]? :=by
   intro K
   induction K with
   | nil=>intro m hm;simp at hm
   | cons vs K ao=>
    intro m hm ah j;have ap:vs.length=pp.n:=ah vs (by simp);cases m with
    | zero=>
     simp only [List.set_cons_zero,List.flatten_cons,Nat.zero_mul,Nat.zero_le,true_and,Nat.zero_add,Nat.sub_zero];split
     ·rename_i O;rw [List.getElem?_append_left O]
     ·rename_i O;rw [List.getElem?_append_right (by omega),List.getElem?_append_right (by omega),ae,ap]
    | succ m=>
     simp only [List.set_cons_succ,List.flatten_cons];have Y:(m+1)*pp.n=m*pp.n+pp.n:=Nat.succ_mul _ _;rcases Nat.lt_or_ge j vs.length with O | O
     ·rw [List.getElem?_append_left O,List.getElem?_append_left O,if_neg (by omega)]
     ·rw [List.getElem?_append_right O,List.getElem?_append_right O,ao m (by simpa using hm) (fun ws aq=>ah ws (List.mem_cons_of_mem _ aq))];by_cases ai:m*pp.n≤j - vs.length∧j - vs.length<m*pp.n+us.length
      ·rw [if_pos ai,if_pos (by omega)];congr 1;omega
      ·rw [if_neg ai,if_neg (by omega)]
  exact(key K m (by omega) al j).symm
 ·rw [List.getElem?_set] at U V;by_cases Y:m=i
  ·subst Y;rw [if_pos rfl,if_pos ak] at U;rw [if_pos rfl,if_pos (by omega)] at V;cases U;cases V;exact hu
  ·rw [if_neg Y] at U V;exact ac i am an U V
theorem Io{α:Type}{kk:Nat}{pp:Rp α}{E:LH}{w:Value}{x:α}(h:pp.r E [w] x):(rA kk pp).r E (List.replicate kk w) (List.replicate kk x):=by
 refine⟨by simp,List.replicate kk [w],?_,by simp,fun i y us K hu=>?_⟩
 ·induction kk with
  | zero=>rfl
  | succ k O=>rw [List.replicate_succ,List.replicate_succ,List.flatten_cons,← O];rfl
 ·have U:=List.eq_of_mem_replicate (List.mem_of_getElem? K);have e2:=List.eq_of_mem_replicate (List.mem_of_getElem? hu);subst U e2;exact h
section
variable {P:Program}{J:Judge P}{Q:Gs_}{b:Frame}{n:Nat}{ds:Ld_}{ops:Ao_}{k:Li_}{cs:Lf_}{L:Env}{E H:LH}{S:List Seg}
variable {d:Option Tmp}{x y:Operand}{t u ty e:TypeId}{p:String}{af:Ae_}{g:On_}{i:Nat}{rest:List Nat}{kd:IntKind}{s:St}{ρ:Operand→Value}
theorem H5{α:Type}{kk:Nat}{pp:Rp α}{ws:Lv_}{xs:List α}{xv:α}{m:Int}{bk o:Nat}(K:(rA kk pp).r E ws xs)(hm:ix xs m=some xv)(ht:P.underlying t=some (.array kk e))(O:Br P e=some pp.n)(U:ρ x= .pointer (some ⟨bk,o,none⟩))(V:ρ y= .int kd m):
  Yl P ⟨d,.indexAddr t x y,ty,p,af,g⟩ ρ s (.pointer (some ⟨bk,o+m.toNat*pp.n,none⟩)):=by
 obtain⟨us,aa,Y,Z,ab⟩:=Hj K hm;have:=Ns (P:=P) (s:=s) (d:=d) (ty:=ty) (p:=p) (af:=af) (g:=g) ht O U V ⟨Y,Z⟩;rw [Dq rfl] at this;exact this
theorem I2{bk o:Nat}{l ws us:Lv_}{v:Value}(j:Nat)(U:ops[i]? =some ⟨d,.store t x y,ty,p,af,g⟩)(hw:A5 L ops ⟨d,.store t x y,ty,p,af,g⟩=some true)(V:Ct b n ⟨d,.store t x y,ty,p,af,g⟩=true)(Y:Ar E H S)
  (Z:ev L x=some (.pointer (some ⟨bk,l.length+o,none⟩))) (aa:ev L y=some v) (K:v.cells.toList=us) (ab:Br P t=some us.length) (ac:∀u∈us,AL u=true) (ae:S[j]? =some [(bk,.cells (l++ws).toArray e (0,0))]) (hle:o+us.length≤ws.length)
  (h:Ar E H (S.set j [(bk,.cells (l++GA ws o us).toArray e (0,0))])→JL J Q b n (Ax L d undef) ds (.inRegion ops rest::k) cs (Am E H (S.set j [(bk,.cells (l++GA ws o us).toArray e (0,0))]))):
  JL J Q b n L ds (.inRegion ops (i::rest)::k) cs (Am E H S):=by
 have ag:v.cells.size=us.length:=by rw [← K];simp
 refine JS.store (v:=v) (off:=l.length+o) j U hw V Y Z aa (by rw [ag];exact ab) (by rw [K];exact ac) ae (by simp;omega) fun O=>?_;rw [K,QV hle] at O ⊢;exact h O
theorem R8{todo:Li_}{K A:Type}{body:K→Option (Bz K A)}{f:Nat}{O:K}{a:A}(U:iter body f O=some a)(I:Env→St→K→Prop)(Y:I L s O)
  (round:∀L s x,I L s x→(∀V,body x=some (.done V)→V=a)→(∃st,body x=some st)→(∀L' s' x',I L' s' x'→body x=some (.more x')→JL J Q b n L' ds todo cs s')→JL J Q b n L ds todo cs s):
  JL J Q b n L ds todo cs s:=by
 induction f generalizing L s O with
 | zero=>cases U
 | succ f Z=>
  exact round L s O Y (fun V h=>NG U h) (Nv U) fun L' s' x' aa hb=>Z (Nn U hb) aa
end
end Pal
namespace Pal
open Go Go.Conc
section
variable {P:Program}{s:St}{ρ:Operand→Value}{x y z:Operand}{d:Option Tmp}{t u ty e:TypeId}{p:String}{af:Ae_}{g:On_}{v v':Value}{E:LH}
structure MJ (P:Program) (e:TypeId) (kd:IntKind) (f:Field):Prop where
 ht:P.underlying e=some (.struct #[f])
 hs:P.stoodInHeld e=false
 n1:f.name≠ "_"
 u1:P.underlying f.type=some (.int kd)
 o1:f.offset=0
theorem T9{n:Nat}{kd:IntKind}{a b:Int}(ht:P.underlying t=some (.int kd)){Q:Bool→St→Prop}{X:Halt→St→Prop}(k:Q (a==b) s):lp P (Op.equalIn (n+1) t (.int kd a) (.int kd b)) s Q X:=by
 unfold Op.equalIn;refine Ay _ _ (CY ht ?_);simp only [if_true];exact k
theorem Sr{n:Nat}{kd:IntKind}{f:Field}{a b:Int}(h:MJ P e kd f){Q:Bool→St→Prop}{X:Halt→St→Prop}(k:Q (decide (a=b)) s):lp P (Op.equalIn (n+2) e (.agg #[.int kd a]) (.agg #[.int kd b])) s Q X:=by
 unfold Op.equalIn;refine Ay _ _ (CY h.ht ?_);refine Ay (x:=program) _ ?_;show lp P (if P.stoodInHeld e=true then _ else _) s _ _
 rw [if_neg (by rw [h.hs];exact Bool.false_ne_true)];have K:CM P f.type=some false:=by unfold CM;rw [h.u1]
 dsimp only;rw [← Array.forIn_toList];simp only [List.forIn_cons,List.forIn_nil];refine Ay _ _ (Ay _ _ ?_);rw [if_pos h.n1,h.o1];refine Ay _ _ (Ic (v:= .int kd a) K rfl ?_);refine Ay _ _ (Ic (v:= .int kd b) K rfl ?_);refine Ay _ _ (T9 h.u1 ?_);by_cases h:a=b
 ·subst h;simpa [lp,pure] using k
 ·simpa [lp,pure,h] using k
theorem NU{c:Aw}{off:Nat}{w:Value}(ht:CM P e=some true)(K:Br P e=some 1)(hw:c[off]? =some w){Q:Value→St→Prop}{X:Halt→St→Prop}(k:Q (.agg #[w]) s):lp P (part e c off) s Q X:=by
 unfold Go.part;refine Ay (x:=isAgg e) _ (I9 ht ?_);simp only [if_true];refine Ay (x:=Go.sizeOf e) _ (En K ?_);have O:c.extract off (off+1)= #[w]:=by
  have U:off<c.size:=(Array.getElem?_eq_some_iff.1 hw).1;apply Array.ext_getElem?;intro j;simp only [Array.getElem?_extract];cases j with
  | zero=>rw [if_pos (by omega)];simpa using hw
  | succ j=>rw [if_neg (by omega)];simp
 show Q (.agg (c.extract off (off+1))) s;rw [O];exact k
theorem R7{n kk:Nat}{kd:IntKind}{f:Field}{ws ws':Lv_}{xs O:List Nat}(ht:P.underlying t=some (.array kk e))(h:MJ P e kd f)(Z:Br P e=some 1)(Y:(rA kk (rN kd)).r E ws xs)(ae:(rA kk (rN kd)).r E ws' O)
  {Q:Bool→St→Prop} {X:Halt→St→Prop} (k:Q (decide (xs=O)) s):lp P (Op.equalIn (n+3) t (.agg ws.toArray) (.agg ws'.toArray)) s Q X:=by
 have ag:CM P e=some true:=by unfold CM;rw [h.ht]
 have aw:=Y.1;have ay:=ae.1;have at_:∀{ws:Lv_} {xs:List Nat},(rA kk (rN kd)).r E ws xs→∀i,i<kk→∃a,xs[i]? =some a∧ws[i]? =some (.int kd ((a:Nat):Int)):=by
  intro ws xs Y i hi;obtain⟨a,ah⟩:∃a,xs[i]? =some a:=⟨_,List.getElem?_eq_getElem (by rw [Y.1];exact hi)⟩;obtain⟨us,ak,_,_,al⟩:=Hj (m:=(i:Int)) Y (by unfold ix;simp;exact ah);have am:us= [.int kd ((a:Nat):Int)]:=ak;subst am;have:=al 0 _ rfl;simp [rN] at this;exact⟨_,ah,this⟩
 unfold Op.equalIn;refine Ay _ _ (CY ht ?_);refine Ay (x:=Go.sizeOf e) _ (En Z ?_)
 dsimp only;simp only [Std.Legacy.Range.forIn_eq_forIn_range',Std.Legacy.Range.size,Nat.sub_zero,Nat.add_one_sub_one,Nat.div_one];let an:Nat→Option Bool×Unit→Sem (ForInStep (Option Bool×Unit)):=fun i _=>do
  if !(← Op.equalIn (n+2) e (← Go.part e ws.toArray (i*1)) (← Go.part e ws'.toArray (i*1))) then pure (ForInStep.done (some false,())) else pure (ForInStep.yield (none,()))
 have key:∀(m st:Nat),st+m=kk→(∀i,i<st→xs[i]? =O[i]?)→∀{K:Option Bool×Unit→St→Prop},K (if xs=O then(none,()) else(some false,())) s→lp P (forIn (List.range' st m) (none,()) an:Sem _) s K X:=by
  intro m
  induction m with
  | zero=>
   intro st ao aa K U;have V:xs=O:=by
    apply List.ext_getElem?;intro i;rcases Nat.lt_or_ge i st with hi | hi
    ·exact aa i hi
    ·rw [List.getElem?_eq_none (by omega),List.getElem?_eq_none (by omega)]
   rw [if_pos V] at U;simp only [List.range'_zero,List.forIn_nil];exact U
  | succ m ap=>
   intro st ao aa K U;simp only [List.range'_succ,List.forIn_cons];obtain⟨a,ab,aq⟩:=at_ Y st (by omega);obtain⟨c,ac,ar⟩:=at_ ae st (by omega);refine Ay _ _ (Ay _ _ (NU ag Z (by rw [Nat.mul_one];simpa using aq) ?_));refine Ay _ _ (NU ag Z (by rw [Nat.mul_one];simpa using ar) ?_);refine Ay _ _ (Sr h ?_);by_cases ai:a=c
   ·subst ai;simp only [decide_true,Bool.not_true,Bool.false_eq_true,if_false,lp,pure];exact ap (st+1) (by omega) (fun i hi=>by
     rcases Nat.lt_or_ge i st with aj | aj
     ·exact aa i aj
     ·obtain rfl:i=st:=by omega
      rw [ab,ac]) U
   ·have au:¬xs=O:=fun q=>ai (by rw [q] at ab;rw [ab] at ac;exact Option.some.inj ac);rw [if_neg au] at U;have av:¬((a:Nat):Int)=((c:Nat):Int):=by omega
    simp only [av,decide_false,Bool.not_false,if_true,lp,pure];exact U
 refine Ay _ _ (key kk 0 (by omega) (fun i hi=>by omega) ?_);by_cases V:xs=O
 ·rw [if_pos V];simpa [lp,pure,V] using k
 ·rw [if_neg V];simpa [lp,pure,V] using k
def P7(P:Program)(e:TypeId)(kd:IntKind):Prop:=∃f,MJ P e kd f
theorem Sq{kk:Nat}{kd:IntKind}{ws ws':Lv_}{xs K:List Nat}(ht:P.underlying t=some (.array kk e))(hg:P.eqGuardType P.depth t=false)(O:P7 P e kd)(U:Br P e=some 1)(V:(rA kk (rN kd)).r E ws xs)(Y:(rA kk (rN kd)).r E ws' K)
  (Z:ρ x= .agg ws.toArray) (aa:ρ y= .agg ws'.toArray):Yl P ⟨d,.binOp .neq t x y u,ty,p,af,g⟩ ρ s (.bool (decide (xs≠K))):=by
 obtain⟨f,h⟩:=O;refine El (sm:=do eqGuard .neq t x y (ρ x) (ρ y);binOp .neq t (ρ x) (ρ y)) rfl ?_
 rw [Z,aa];refine Ay _ _ (Nt (.inr rfl) hg ?_);have hb:binOp .neq t (.agg ws.toArray) (.agg ws'.toArray)=(do pure (.bool (!(← Op.equal t (.agg ws.toArray) (.agg ws'.toArray))))):=rfl
 rw [hb];refine Ay (x:=Op.equal t _ _) _ ?_;unfold Op.equal Op.maxDepth;exact R7 ht h U V Y ⟨by simp,rfl⟩
end
theorem Se{E H:LH}{S:List Seg}{bk o:Nat}{l ws:Lv_}{e:TypeId}{f:Nat×Nat}{w:Value}(j:Nat)(O:Ar E H S)(U:S[j]? =some [(bk,.cells (l++ws).toArray e f)])(K:l[o]? =some w):(Am E H S).cell? ⟨bk,o,none⟩=some w:=by
 refine Cu O U ?_;simp only [List.getElem?_toArray];rw [List.getElem?_append_left (List.getElem?_eq_some_iff.1 K).1];exact K
theorem LX{E H:LH}{S:List Seg}{bks:List Nat}{bk:Nat}{l ws:Lv_}{e:TypeId}{f:Nat×Nat}{s':St}(j:Nat)(K:Ar E H S)(O:S[j]? =some [(bk,.cells (l++ws).toArray e f)])(U:AX bks bk=true)(hs:∀x o,(Bu (AX bks) (Am E H S)).E x=some o→s'.E x=some o):∀q v,ws[q]? =some v→s'.cell? (Addr.add ⟨bk,l.length,none⟩ q)=some v:=fun q v V=>by
 rw [Dq rfl]
 refine Jc j K O U hs ?_
 simp only [List.getElem?_toArray]
 rw [List.getElem?_append_right (by omega)]
 rw [show l.length+q - l.length=q by omega];exact V
end Pal
namespace Pal
open Go Go.Conc
def MP(t1 t2:TypeId)(v:Value):Option (Int×Option Int)→Prop
 | none=>v= .nilIface
 | some (m,none)=>v= .iface t1 (.agg #[iV m])
 | some (m,some a)=>v= .iface t2 (.agg #[iV m,iV a])
def MQ:Option (Int×Option Int)→Value
 | some (m,none)=> .agg #[iV m]
 | _=> .agg #[iV 0]
def MR:Option (Int×Option Int)→Value
 | some (m,some a)=> .agg #[iV m,iV a]
 | _=> .agg #[iV 0,iV 0]
def Lq:Option (Int×Option Int)→Bool
 | some (_,none)=>true
 | _=>false
def Lp:Option (Int×Option Int)→Bool
 | some (_,some _)=>true
 | _=>false
section
variable {P:Program}{s:St}{ρ:Operand→Value}{x y z:Operand}{d:Option Tmp}{t u ty e xt t1 t2:TypeId}{p:String}{af:Ae_}{g:On_}{v v':Value}{o:Option (Int×Option Int)}
theorem Q0{f1:Array Field}(O:P.underlying t1=some (.struct f1))(K:zeroOf P t1=some (.agg #[iV 0]))(U:t2≠t1)(he:MP t1 t2 v o)(V:ρ x=v):Yl P ⟨d,.typeAssert x xt t1 true,ty,p,af,g⟩ ρ s (.tuple #[MQ o,.bool (Lq o)]):=by
 refine El (sm:=Instr.typeAssert (ρ x) xt t1 true) rfl ?_;rw [V];unfold Instr.typeAssert;refine Ay _ _ (CY O ?_)
 match o,he with
 | none,he=>obtain rfl:v= .nilIface:=he;exact Ay (x:=zeroValue t1) _ (FG K ⟨rfl,rfl⟩)
 | some (m,none),he=>obtain rfl:v= .iface t1 (.agg #[iV m]):=he;simp [lp,pure,MQ,Lq]
 | some (m,some a),he=>
  obtain rfl:v= .iface t2 (.agg #[iV m,iV a]):=he;simp only [if_neg U];exact Ay (x:=zeroValue t1) _ (FG K ⟨rfl,rfl⟩)
theorem Q2{f1:Array Field}(O:P.underlying t2=some (.struct f1))(K:zeroOf P t2=some (.agg #[iV 0,iV 0]))(U:t1≠t2)(he:MP t1 t2 v o)(V:ρ x=v):Yl P ⟨d,.typeAssert x xt t2 true,ty,p,af,g⟩ ρ s (.tuple #[MR o,.bool (Lp o)]):=by
 refine El (sm:=Instr.typeAssert (ρ x) xt t2 true) rfl ?_;rw [V];unfold Instr.typeAssert;refine Ay _ _ (CY O ?_)
 match o,he with
 | none,he=>obtain rfl:v= .nilIface:=he;exact Ay (x:=zeroValue t2) _ (FG K ⟨rfl,rfl⟩)
 | some (m,none),he=>
  obtain rfl:v= .iface t1 (.agg #[iV m]):=he;simp only [if_neg U];exact Ay (x:=zeroValue t2) _ (FG K ⟨rfl,rfl⟩)
 | some (m,some a),he=>obtain rfl:v= .iface t2 (.agg #[iV m,iV a]):=he;simp [lp,pure,MR,Lp]
end
def Qg{P:Program}(J:Judge P)(v:Value)(args:Aw)(s:St)(R:Value→St→Prop):Prop:=
 ∀(Q:Gs_) (c:Frame) (cs:Lf_),(∀w s',R w s'→J.ok Q (G (c.finish w) cs) s')→
  lp P (do let d ← Deferred.ofValue v args;invoke d.target d.args) s (fun K s'=>match K with
   | .enter f a=>J.ok Q (G (Frame.enter P f a .normal) (c::cs)) s'
   | .round l f O as U=>J.ok Q (G (Frame.round l f O as U .normal) (c::cs)) s'
   | _=>False) (fun _ _=>False)
def D7{P:Program}(J:Judge P)(v:Value)(args:Lv_)(E:LH)(B:Seg)(R:Value→LH→Seg→Prop):Prop:=
 ∀H,Nd E H B→Qg J v args.toArray (mk E H B) (fun v s'=>∃E' B',Le E E'∧R v E' B'∧Nd E' H B'∧s'=mk E' H B')
section
variable {P:Program}{J:Judge P}{Q:Gs_}{b:Frame}{n:Nat}{L:Env}{ds:Ld_}{k:Li_}{cs:Lf_}{E:LH}{H:LH}{S:List Seg}{i:Nat}{rest:List Nat}{d:Option Tmp}{ty e t:TypeId}{p:String}{af:Ae_}{g:On_}{ops:Ao_}
theorem D7.ofFn{f:FuncId}{caps vs:Lv_}{B:Seg}{R:Value→LH→Seg→Prop}(hb:Dj P f=true)(h:AT J f (vs++caps) E B R):D7 J (.func (.func f) #[] caps.toArray) vs E B R:=fun H K Q c cs O=>by
 simp only [Deferred.ofValue,bind,Sem.bind,pure,invoke]
 have e: #[]++vs.toArray++caps.toArray=(vs++caps).toArray:=by simp
 rw [e];exact H2 hb (h H K Q c cs O)
theorem Rf{x:Operand}{O:Value}{args:Array Operand}{ats:Array TypeId}{s:St}{vs:Lv_}{R:Value→St→Prop}
  (V:ops[i]? =some ⟨d,.call ⟨.value x,args,ats⟩,ty,p,af,g⟩) (hw:A5 L ops ⟨d,.call ⟨.value x,args,ats⟩,ty,p,af,g⟩=some true) (U:((b.kind != .early)&&Bs n d)=true)
  (Y:ev L x=some O) (Z:evs L args.toList=some vs) (aa:Qg J O vs.toArray s R) (ab:∀v s',R v s'→JL J Q b n (Ax L d v) ds (.inRegion ops rest::k) cs s'):
  JL J Q b n L ds (.inRegion ops (i::rest)::k) cs s:=fun T K=>by
 simp only [Bool.and_eq_true] at U
 have ac:args.map (BB T)=vs.toArray:=by
  rw [← EX K.Fx Z];apply Array.ext';simp
 refine Judge.oper V (CL K hw) (by simpa using U.1) (.inr fun c ae=>by cases ae) ?_;have ag:lp P (execOp (BB T) ⟨d,.call ⟨.value x,args,ats⟩,ty,p,af,g⟩) s (upon J Q b T ds ops i rest k cs d) (Lh J Q b T ds ops i rest k cs):=by
  have ah:execOp (BB T) ⟨d,.call ⟨.value x,args,ats⟩,ty,p,af,g⟩=(do let d ← Deferred.ofValue O vs.toArray;invoke d.target d.args):=by
   simp only [execOp,resolve,ac,K.Fx _ _ Y]
  rw [ah];refine CO _ (aa Q (fr b T ds (.inRegion ops (i::rest)::k)) cs fun v s' ai=>?_) (fun aj s' h=>?_) (fun _ _ h=>h.elim)
  ·rw [Fp (o:=⟨d,.call ⟨.value x,args,ats⟩,ty,p,af,g⟩) _ _ _ _ _ V];exact ab v s' ai _ (K.put U.2 v)
  ·cases aj <;> first | exact h | exact h.elim
 exact ag
theorem H8{x:Operand}{O:Value}{args:Array Operand}{ats:Array TypeId}{vs:Lv_}{seg:Seg}{R:Value→LH→Seg→Prop}(j:Nat)
  (ac:D7 J O vs E seg R) (ae:ops[i]? =some ⟨d,.call ⟨.value x,args,ats⟩,ty,p,af,g⟩) (hw:A5 L ops ⟨d,.call ⟨.value x,args,ats⟩,ty,p,af,g⟩=some true) (ag:((b.kind != .early)&&Bs n d)=true)
  (K:ev L x=some O) (ah:evs L args.toList=some vs) (U:Ar E H S) (V:S[j]? =some seg) (ai:∀v E' seg',Le E E'→R v E' seg'→Ar E' H (S.set j seg')→JL J Q b n (Ax L d v) ds (.inRegion ops rest::k) cs (Am E' H (S.set j seg'))):
  JL J Q b n L ds (.inRegion ops (i::rest)::k) cs (Am E H S):=by
 have Y:S.flatten.Perm (seg++(S.set j []).flatten):=(DG (seg':=seg) V).1.trans List.perm_append_comm;have Z:Nd E H (seg++(S.set j []).flatten):=Nd.perm U Y;have aj:Am E H S=mk E (A9 (S.set j []).flatten H) seg:=by
  rw [show Am E H S=mk E H S.flatten from rfl,Ep U Y];unfold mk;rw [EY]
 rw [aj];refine Rf ae hw ag K ah (ac _ (Nd.front Z)) ?_;rintro v s' ⟨E',B',hle,ak,al,rfl⟩;have e2:mk E' (A9 (S.set j []).flatten H) B'=mk E' H (B'++(S.set j []).flatten):=by unfold mk;rw [EY]
 have am:Nd E H (S.set j []).flatten:=by
  have:=Z;rw [Nd.iff] at this ⊢;rw [List.map_append,List.nodup_append] at this;exact⟨this.1.2.1,fun q an=>this.2 q (List.mem_append_right _ an)⟩
 refine OS rfl fun⟨w,ao⟩=>?_;have ap:Nd E' H (S.set j []).flatten:=am.grow fun x K=>by
  have aq:=ao.d x K;have ar:A9 B' (A9 (S.set j []).flatten H) x=none:=aq;exact(F2 ar).1
 have aa:Nd E' H (B'++(S.set j []).flatten):=Nd.glue al ap;rw [e2];have ab:(B'++(S.set j []).flatten).Perm (S.set j B').flatten:=List.perm_append_comm.trans (DG V).2.symm;rw [Ep aa ab];exact ai v E' B' hle ak (Nd.perm aa ab)
theorem Ny{bks:List Nat}{m fuel:Nat}{listed:Array Bool}{f:FuncId}{args:Array Operand}{ats:Array TypeId}{vs:Lv_}{seg:Seg}{R:Value→LH→Seg→Prop}(j:Nat)(ai:Fw S bks)(aj:AT J f vs E seg R)(ak:∀v E' B',R v E' B'→B'=seg)(al:Region.ready .any ops listed= [i])
  (am:ops[i]? =some ⟨d,.call ⟨.value (.func f),args,ats⟩,ty,p,af,g⟩) (an:Bs n d=true) (hw:A5 L ops ⟨d,.call ⟨.value (.func f),args,ats⟩,ty,p,af,g⟩=some true) (hb:Dj P f=true) (ao:evs L args.toList=some vs) (V:Ar E H S) (ap:S[j]? =some seg)
  (aq:∀v E',Le E E'→R v E' seg→Ar E' H S→AQ J Q b n ds ops k cs m (AX bks) fuel (A4 listed i) (Ax L d v) (Am E' H S)):
  AQ J Q b n ds ops k cs m (AX bks) (fuel+1) listed L (Am E H S):=by
 have O:S.flatten.Perm (seg++(S.set j []).flatten):=(DG (seg':=seg) ap).1.trans List.perm_append_comm;have aa:Nd E H (seg++(S.set j []).flatten):=Nd.perm V O;have ar:Am E H S=mk E (A9 (S.set j []).flatten H) seg:=by
  rw [show Am E H S=mk E H S.flatten from rfl,Ep V O];unfold mk;rw [EY]
 have ab:=Dt.IC (aj (A9 (S.set j []).flatten H) (Nd.front aa)) (by rintro v s' ⟨E',B',_,_,_,rfl⟩;rfl);rw [← ar] at ab;refine AQ.call rfl al am an hw hb ao ab ?_;rintro v aC ⟨⟨E',B',hle,ac,au,rfl⟩,w,av⟩;obtain rfl:=ak _ _ _ ac;have e2:mk E' (A9 (S.set j []).flatten H) B'=mk E' H (B'++(S.set j []).flatten):=by unfold mk;rw [EY]
 have aw:Nd E H (S.set j []).flatten:=by
  have:=aa;rw [Nd.iff] at this ⊢;rw [List.map_append,List.nodup_append] at this;exact⟨this.1.2.1,fun q ay=>this.2 q (List.mem_append_right _ ay)⟩
 have az:Nd E' H (S.set j []).flatten:=aw.grow fun x U=>by
  have aA:=av.d x U;have Y:A9 B' (A9 (S.set j []).flatten H) x=none:=aA;exact(F2 Y).1
 have ae:Nd E' H (B'++(S.set j []).flatten):=Nd.glue au az;have ag:Ar E' H S:=Nd.perm ae O.symm;rw [e2,Ep ae O.symm];refine⟨rfl,fun x o U=>?_,aq v E' hle ac ag⟩;by_cases Z:AX bks x=true
 ·obtain⟨aD,o',ah⟩:=ai.mem x (by simpa [AX] using Z);have Y:(Am E H S).get x=some o':=D5 (i:=0) V ah rfl;have aB:(Am E' H S).get x=some o':=D5 (i:=0) ag ah rfl;have K:(if AX bks x then(Am E H S).get x else E x)=some o:=U
  show(if AX bks x then(Am E' H S).get x else E' x)=some o
  rw [if_pos Z] at K ⊢;rw [aB,← Y];exact K
 ·have K:(if AX bks x then(Am E H S).get x else E x)=some o:=U
  show(if AX bks x then(Am E' H S).get x else E' x)=some o
  rw [if_neg Z] at K ⊢;exact hle _ _ K
theorem Take.UR{bks:List Nat}{m fuel:Nat}{listed:Array Bool}{f:FuncId}{args:Array Operand}{ats:Array TypeId}{vs:Lv_}{R:Value→LH→Seg→Prop}(ag:Fw S bks)(Z:Ar E H S)(ah:AT J f vs E [] R)
  (ai:ops[i]? =some ⟨d,.call ⟨.value (.func f),args,ats⟩,ty,p,af,g⟩) (hw:A5 L ops ⟨d,.call ⟨.value (.func f),args,ats⟩,ty,p,af,g⟩=some true) (aj:Bs n d=true) (hb:Dj P f=true) (ak:evs L args.toList=some vs)
  (al:∀v E' seg',Le E E'→R v E' seg'→Ar E' H (S++ [seg'])→AQ J Q b n ds ops k cs m (AX bks) fuel (A4 listed i) (Ax L d v) (Am E' H (S++ [seg']))):
  Take J Q b n ds ops k cs m (AX bks) fuel listed L (Am E H S) i:=by
 have am:=Dt.IC (ah (A9 S.flatten H) trivial) (by rintro v s' ⟨E',B',_,_,_,rfl⟩;rfl);refine⟨_,ai,by simp [CV],aj,hw,fun ρ aa=>?_⟩;have an:args.map ρ=vs.toArray:=by
  rw [← EX aa ak];apply Array.ext';simp
 have ao:ρ (.func f)= .func (.func f) #[] #[]:=aa _ _ rfl;simp only [execOp,resolve,bind,Sem.bind,Deferred.ofValue,ao,pure,invoke];have e: #[]++args.map ρ++ #[]=vs.toArray:=by rw [an];simp
 rw [e];refine H2 hb ?_;rw [I3];refine⟨_,am,?_⟩;rintro v az ⟨⟨E',B',hle,ap,aq,rfl⟩,w,ar⟩;have e2:mk E' (A9 S.flatten H) B'=mk E' H (B'++S.flatten):=by unfold mk;rw [EY]
 have au:Nd E' H S.flatten:=Nd.grow Z fun x O=>by
  have av:=ar.d x O;have U:A9 B' (A9 S.flatten H) x=none:=av;exact(F2 U).1
 have ab:Nd E' H (B'++S.flatten):=Nd.glue aq au;have ac:(B'++S.flatten).Perm (S++ [B']).flatten:=by rw [F4];exact List.perm_append_comm
 have ae:Ar E' H (S++ [B']):=Nd.perm ab ac;rw [e2,Ep ab ac];refine⟨rfl,fun x o O=>?_,al v E' B' hle ap ae⟩;by_cases V:AX bks x=true
 ·obtain⟨j,o',Y⟩:=ag.mem x (by simpa [AX] using V);have U:(Am E H S).get x=some o':=D5 (i:=0) Z Y rfl;have aw:j<S.length:=(List.getElem?_eq_some_iff.1 Y).1;have ay:(Am E' H (S++ [B'])).get x=some o':=D5 (i:=0) ae (by rw [List.getElem?_append_left aw];exact Y) rfl;have K:(if AX bks x then(Am E H S).get x else E x)=some o:=O
  show(if AX bks x then(Am E' H (S++ [B'])).get x else E' x)=some o
  rw [if_pos V] at K ⊢;rw [ay,← U];exact K
 ·have K:(if AX bks x then(Am E H S).get x else E x)=some o:=O
  show(if AX bks x then(Am E' H (S++ [B'])).get x else E' x)=some o
  rw [if_neg V] at K ⊢;exact hle _ _ K
theorem Take.PX{m fuel:Nat}{listed:Array Bool}{f:FuncId}{args:Array Operand}{ats:Array TypeId}{vs:Lv_}{R:Value→LH→Seg→Prop}(O:Ar E H S)(U:AT J f vs E [] R)
  (V:ops[i]? =some ⟨d,.call ⟨.value (.func f),args,ats⟩,ty,p,af,g⟩) (hw:A5 L ops ⟨d,.call ⟨.value (.func f),args,ats⟩,ty,p,af,g⟩=some true) (Y:Bs n d=true) (hb:Dj P f=true) (Z:evs L args.toList=some vs)
  (K:∀v E' seg',Le E E'→R v E' seg'→Ar E' H (S++ [seg'])→AQ J Q b n ds ops k cs m CQ fuel (A4 listed i) (Ax L d v) (Am E' H (S++ [seg']))):
  Take J Q b n ds ops k cs m CQ fuel listed L (Am E H S) i:=by
 have e:AX []=CQ:=by funext x;rfl
 rw [← e] at K ⊢;exact Take.UR (bks:= []) trivial O U V hw Y hb Z K
end
end Pal
namespace Pal
open Go Go.Conc
open Go.ConcN (upd upd_same upd_ne)
def Dd:Loc→Option Nat | .cell a=>some a.block | .obj r=>some r | _=>none
structure B7 (t:Trace) (w:World) (N:Nat) (S:Nat→St) (Sh:Nat→Prop):Prop where
 fits:∀i,i<N→Fits (S i) w
 hh:∀i j,i<N→j<N→i≠j→∀b,(S i).H b≠none→(S j).H b=none∧(S j).E b=none
 sh:∀i,i<N→∀b,Sh b→(S i).H b=none∧(S i).E b=none
 Eu:∀b,Sh b→b<w.heap.size
 clean:∀said,¬Race said t
 low:∀op∈t,op.act.low w.heap.size
 kH:∀i,i<N→∀b,(S i).H b≠none→∀x a,touchAt t x=some a→Dd a.loc=some b→Knows t i x
 kE:∀i,i<N→∀b,(S i).E b≠none→∀x a,touchAt t x=some a→Dd a.loc=some b→a.write=true→Knows t i x
theorem LZ{t:Trace}{x:Nat}{a:Touch}{b n:Nat}(Y:∀op∈t,op.act.low n)(h:touchAt t x=some a)(hb:Dd a.loc=some b):b<n:=by
 obtain⟨op,Z,K⟩:=touch_of h;have O:=Y op (mem_of_getElem? Z);cases U:op.act with
 | access e=>
  rw [U] at K O;simp only [MemAct.touch?,Option.some.injEq] at K;subst K;simp only [MemAct.low] at O;cases V:e.loc with
  | cell ad=>rw [V] at O hb;simp only [Dd,Option.some.injEq] at hb;subst hb;exact O
  | obj r=>rw [V] at O hb;simp only [Dd,Option.some.injEq] at hb;subst hb;exact O
  | _=>rw [V] at hb;simp [Dd] at hb
 | mark m=>
  rw [U] at K O;cases m <;> simp only [MemAct.touch?] at K <;> first
   | (simp at K;done)
   | (simp only [Option.some.injEq] at K;subst K;simp only [Dd,Option.some.injEq] at hb;subst hb;exact O)
 | _=>rw [U] at K;simp [MemAct.touch?] at K
theorem Ko{s:St}{w w':World}{e:Event}{a:Touch}{b:Nat}(h:Ev s w w' e)(K:(MemAct.ofEvent e).touch? =some a)(hb:Dd a.loc=some b):
  Fa s w w' b a.write:=by
 obtain⟨loc,wr,V⟩:=e;cases loc with
 | cell ad=>
  obtain⟨O,U⟩:=h;simp only at O;subst O;simp only [MemAct.ofEvent,MemAct.touch?,Option.some.injEq] at K;subst K;simp only [Dd,Option.some.injEq] at hb;subst hb;exact U
 | obj r=>
  obtain⟨O,U⟩:=h;simp only at O;subst O;simp only [MemAct.ofEvent,MemAct.touch?,Option.some.injEq] at K;subst K;simp only [Dd,Option.some.injEq] at hb;subst hb;exact U
 | mark m=>
  cases m <;> simp only [Ev] at h <;> first | exact h.elim | simp [MemAct.ofEvent,MemAct.touch?] at K
 | _=>exact h.elim
theorem T7{s:St}{w w':World}{e:Event}(h:Ev s w w' e):(MemAct.ofEvent e).low w'.heap.size:=by
 obtain⟨loc,wr,U⟩:=e;cases loc with
 | cell ad=>obtain⟨K,O⟩:=h;simp only at K;subst K;exact O.1
 | obj r=>obtain⟨K,O⟩:=h;simp only at K;subst K;cases wr <;> exact O.1
 | mark m=>cases m <;> simp only [Ev] at h <;> first | exact h.elim | exact trivial
 | _=>exact h.elim
theorem QB{l:Loc}(h:l.isMemory=true):∃b,Dd l=some b:=by
 cases l <;> simp [Loc.isMemory] at h <;> exact⟨_,rfl⟩
theorem B7.own{t:Trace}{w w':World}{N:Nat}{S:Nat→St}{Sh:Nat→Prop}(h:B7 t w N S Sh){i:Nat}(hi:i<N){s':St}{fn:FuncId}{pos:String}{es:Array Event}
  (ay:Fits s' w') (V:Fr (S i) w s' w') (aj:∀e∈es,Ev (S i) w w' e):B7 (t++MemOp.ofEvents i fn pos es) w' N (upd S i s') Sh:=by
 have aq:∀j,j<N→j≠i→∀b o,((S j).H b=some o∨(S j).E b=some o)→w'.heap[b]? =some o∧(S i).H b=none:=by
  intro j U Y b o K;have hw:w.heap[b]? =some o:=K.elim ((h.fits j U).h b o) ((h.fits j U).e b o);have ab:b<w.heap.size:=by
   rcases Nat.lt_or_ge b w.heap.size with am | am
   ·exact am
   ·simp [Array.getElem?_eq_none am] at hw
  have ar:(S i).H b=none:=by
   cases az:(S i).H b with
   | none=>rfl
   | some u=>
    have:=h.hh i j hi U (Ne.symm Y) b (by rw [az];simp);rcases K with K | K
    ·rw [this.1] at K;cases K
    ·rw [this.2] at K;cases K
  exact⟨by rw [V.keep b ab ar,hw],ar⟩
 have ak:∀j,j<N→∀b,w.heap.size≤b→(S j).H b=none∧(S j).E b=none:=by
  intro j U b hb;constructor
  ·cases O:(S j).H b with
   | none=>rfl
   | some o=>have:=(h.fits j U).h b o O;simp [Array.getElem?_eq_none hb] at this
  ·cases O:(S j).E b with
   | none=>rfl
   | some o=>have:=(h.fits j U).e b o O;simp [Array.getElem?_eq_none hb] at this
 have ac:∀op∈MemOp.ofEvents i fn pos es,op.g=i∧∃e∈es,op.act=MemAct.ofEvent e:=by
  intro op ac;obtain⟨e,he,rfl⟩:=mem_ofEvents ac;exact⟨rfl,e,he,rfl⟩
 have hold:∀x a,touchAt t x=some a→touchAt (t++MemOp.ofEvents i fn pos es) x=some a:=by
  intro x a O;obtain⟨op,K,_⟩:=touch_of O;rw [touchAt_old (lt_size_of_getElem? K)];exact O
 have al:∀x a,touchAt (t++MemOp.ofEvents i fn pos es) x=some a→touchAt t x=some a∨(Knows (t++MemOp.ofEvents i fn pos es) i x∧∃e∈es,(MemAct.ofEvent e).touch? =some a):=by
  intro x a O;obtain⟨op,K,au⟩:=touch_of O;rcases getElem?_append_cases K with⟨ab,aA⟩ | ⟨_,aB⟩
  ·left;rw [touchAt_of aA];exact au
  ·right;obtain⟨hg,e,he,ag⟩:=ac op aB;exact⟨by have:=knows_own K;rwa [hg] at this,e,he,by rw [← ag];exact au⟩
 have aC:∀j,j<N→j≠i→∀b,s'.H b≠none→(S j).H b=none∧(S j).E b=none:=by
  intro j U Y b hb;rcases V.own b hb with O | O
  ·exact h.hh i j hi U (Ne.symm Y) b O
  ·exact ak j U b O
 have aD:∀j,j<N→j≠i→∀b,(S j).H b≠none→s'.H b=none∧s'.E b=none:=by
  intro j U Y b hb;have Z:=h.hh j i U hi Y b hb;have ab:¬w.heap.size≤b:=fun O=>hb (ak j U b O).1;constructor
  ·cases O:s'.H b with
   | none=>rfl
   | some o=>
    rcases V.own b (by rw [O];simp) with y | y
    ·exact absurd Z.1 y
    ·exact absurd y ab
  ·cases O:s'.E b with
   | none=>rfl
   | some o=>
    rcases V.Ds b (by rw [O];simp) with y | y | y
    ·exact absurd Z.2 y
    ·exact absurd Z.1 y
    ·exact absurd y ab
 constructor
 ·intro j U;by_cases e:j=i
  ·subst e;rw [upd_same];exact ay
  ·rw [upd_ne _ _ e];exact⟨fun b o K=>(aq j U e b o (.inr K)).1,fun b o K=>(aq j U e b o (.inl K)).1,(h.fits j U).d⟩
 ·intro a c av ah Y b hb;by_cases e:a=i
  ·subst e;rw [upd_same] at hb;rw [upd_ne _ _ (Ne.symm Y)];exact aC c ah (Ne.symm Y) b hb
  ·rw [upd_ne _ _ e] at hb;by_cases aw:c=i
   ·subst aw;rw [upd_same];exact aD a av Y b hb
   ·rw [upd_ne _ _ aw];exact h.hh a c av ah Y b hb
 ·intro j U b hb;by_cases e:j=i
  ·subst e;rw [upd_same];have Z:=h.sh j U b hb;have ab:=h.Eu b hb;constructor
   ·cases O:s'.H b with
    | none=>rfl
    | some o=>
     rcases V.own b (by rw [O];simp) with y | y
     ·exact absurd Z.1 y
     ·omega
   ·cases O:s'.E b with
    | none=>rfl
    | some o=>
     rcases V.Ds b (by rw [O];simp) with y | y | y
     ·exact absurd Z.2 y
     ·exact absurd Z.1 y
     ·omega
  ·rw [upd_ne _ _ e];exact h.sh j U b hb
 ·exact fun b hb=>Nat.lt_of_lt_of_le (h.Eu b hb) V.size
 ·intro said;refine noRace_append (g:=i) (h.clean said) (fun op K=>(ac op K).1) fun x a O op K c ah aE=>?_;obtain⟨_,e,he,ag⟩:=ac op K;rw [ag] at ah;obtain⟨aF,hm,ae,_⟩:=aE;obtain⟨b,hb⟩:=QB hm;have aG:Dd c.loc=some b:=by rw [← aF];exact hb
  have ai:=Ko (aj e he) ah aG;rcases ai.2 with y | y | ⟨y,an⟩
  ·exact h.kH i hi b y x a O hb
  ·have:=LZ h.low O hb;omega
  ·rcases ae with z | z
   ·exact h.kE i hi b y x a O hb z
   ·rw [an] at z;cases z
 ·intro op K;rcases Array.mem_append.1 K with K | K
  ·exact MemAct.low_mono V.size (h.low op K)
  ·obtain⟨_,e,he,ag⟩:=ac op K;rw [ag];exact T7 (aj e he)
 ·intro j U b hb x a O aa;by_cases e:j=i
  ·subst e;rw [upd_same] at hb;rcases al x a O with K | ⟨ao,_⟩
   ·rcases V.own b hb with y | y
    ·exact(h.kH j U b y x a K aa).app _
    ·have:=LZ h.low K aa;omega
   ·exact ao
  ·rw [upd_ne _ _ e] at hb;rcases al x a O with K | ⟨_,ev,he,ap⟩
   ·exact(h.kH j U b hb x a K aa).app _
   ·have ai:=Ko (aj ev he) ap aa;have Z:=h.hh j i U hi e b hb;rcases ai.2 with y | y | ⟨y,_⟩
    ·exact absurd Z.1 y
    ·exact absurd (ak j U b y).1 hb
    ·exact absurd Z.2 y
 ·intro j U b hb x a O aa ae;by_cases e:j=i
  ·subst e;rw [upd_same] at hb;rcases al x a O with K | ⟨ao,_⟩
   ·rcases V.Ds b hb with y | y | y
    ·exact(h.kE j U b y x a K aa ae).app _
    ·exact(h.kH j U b y x a K aa).app _
    ·have:=LZ h.low K aa;omega
   ·exact ao
  ·rw [upd_ne _ _ e] at hb;rcases al x a O with K | ⟨_,ev,he,ap⟩
   ·exact(h.kE j U b hb x a K aa ae).app _
   ·have ai:=Ko (aj ev he) ap aa;rcases ai.2 with y | y | ⟨_,an⟩
    ·exact absurd ((h.hh i j hi U (Ne.symm e) b y).2) hb
    ·exact absurd (ak j U b y).2 hb
    ·rw [an] at ae;cases ae
theorem B7.mute{t u:Trace}{w w':World}{N:Nat}{S:Nat→St}{Sh:Nat→Prop}(h:B7 t w N S Sh){g:Nat}(hu:∀op∈u,op.g=g)(Y:∀op∈u,op.act.touch? =none)(ab:∀op∈u,op.act.low w'.heap.size)(hw:w'.heap=w.heap):B7 (t++u) w' N S Sh:=by
 have Z:∀x a,touchAt (t++u) x=some a→touchAt t x=some a:=by
  intro x a O;obtain⟨op,K,U⟩:=touch_of O;rcases getElem?_append_cases K with⟨ah,ac⟩ | ⟨_,ae⟩
  ·rw [touchAt_of ac];exact U
  ·rw [Y op ae] at U;cases U
 exact⟨fun i hi=>⟨fun b o K=>by rw [hw];exact(h.fits i hi).e b o K,fun b o K=>by rw [hw];exact(h.fits i hi).h b o K,(h.fits i hi).d⟩,h.hh,h.sh,fun b hb=>by rw [hw];exact h.Eu b hb,
  fun said=>noRace_append (g:=g) (h.clean said) hu (fun x a _ op K c aa _=>by rw [Y op K] at aa;cases aa),
  fun op K=>(Array.mem_append.1 K).elim (fun K=>by rw [hw];exact h.low op K) (ab op),
  fun i hi b hb x a O V=>(h.kH i hi b hb x a (Z x a O) V).app _,fun i hi b hb x a O V ag=>(h.kE i hi b hb x a (Z x a O) V ag).app _⟩
theorem B7.ghost{t:Trace}{w:World}{N:Nat}{S:Nat→St}{Sh:Nat→Prop}(h:B7 t w N S Sh){i:Nat}(hi:i<N){s₀:St}(hg:Cf (S i) s₀):B7 t w N (upd S i s₀) Sh:=by
 have Y:∀b,s₀.H b≠none→(S i).H b≠none:=fun b hb=>by obtain⟨o,ab⟩:=Gn hb;rw [hg.own b o ab];simp
 have ac:∀b,s₀.E b≠none→(S i).E b≠none∨(S i).H b≠none:=fun b hb=>by
  obtain⟨o,ab⟩:=Gn hb;rcases hg.Ds b o ab with x | x
  ·exact .inl (by rw [x];simp)
  ·exact .inr (by rw [x.1];simp)
 have Z:∀{x:Option Obj},¬x≠none→x=none:=fun h=>Classical.not_not.1 h;constructor
 ·intro j K;by_cases e:j=i
  ·subst e;rw [upd_same];exact hg.fits (h.fits j K)
  ·rw [upd_ne _ _ e];exact h.fits j K
 ·intro a c ae ag aa b hb;by_cases e:a=i
  ·subst e;rw [upd_same] at hb;rw [upd_ne _ _ (Ne.symm aa)];exact h.hh a c ae ag aa b (Y b hb)
  ·rw [upd_ne _ _ e] at hb;by_cases ah:c=i
   ·subst ah;rw [upd_same];have O:=h.hh a c ae ag aa b hb;exact⟨Z fun x=>Y b x O.1,Z fun x=>(ac b x).elim (fun y=>y O.2) fun y=>y O.1⟩
   ·rw [upd_ne _ _ ah];exact h.hh a c ae ag aa b hb
 ·intro j K b hb;by_cases e:j=i
  ·subst e;rw [upd_same];have O:=h.sh j K b hb;exact⟨Z fun x=>Y b x O.1,Z fun x=>(ac b x).elim (fun y=>y O.2) fun y=>y O.1⟩
  ·rw [upd_ne _ _ e];exact h.sh j K b hb
 ·exact h.Eu
 ·exact h.clean
 ·exact h.low
 ·intro j K b hb x a U V;by_cases e:j=i
  ·subst e;rw [upd_same] at hb;exact h.kH j K b (Y b hb) x a U V
  ·rw [upd_ne _ _ e] at hb;exact h.kH j K b hb x a U V
 ·intro j K b hb x a U V ai;by_cases e:j=i
  ·subst e;rw [upd_same] at hb;rcases ac b hb with y | y
   ·exact h.kE j K b y x a U V ai
   ·exact h.kH j K b y x a U V
  ·rw [upd_ne _ _ e] at hb;exact h.kE j K b hb x a U V ai
end Pal
