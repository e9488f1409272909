/- DebtAdds, row of debt: for every input the law is true and its arguments read behind the call as before it. Part 1 of 9. -/
import Derived.Conc.Own5
import Derived.Conc.Listed
import Derived.Conc.DeferLaws
import Derived.Orders
import Derived.Conc.Beside
import Derived.Conc.CrowdComm
import Derived.Conc.TokenWalk
import Derived.Conc.MarkLaws
import Derived.Conc.AtomicLaws2
import Derived.Conc.ClockLaws
set_option linter.all false
set_option maxRecDepth 100000
namespace Pal
open Go Go.Conc
abbrev LH:=Nat->Option Obj
structure St where
 E:LH
 H:LH
 q:Bool
abbrev Ld_:=List Deferred
abbrev Ao_:=Array Oper
abbrev Li_:=List Item
abbrev Lf_:=List Frame
abbrev On_:=Option (Nat×Bool)
abbrev Ae_:=Array Edge
abbrev Gs_:=Goroutine->St->Prop
abbrev Lv_:=List Value
abbrev Av_:=Array Value
def St.get(s:St)(b:Nat):Option Obj:=match s.E b with | some o=>some o | none=>s.H b
structure Fits (s:St) (w:World):Prop where
 e:∀b o,s.E b=some o->w.heap[b]? =some o
 h:∀b o,s.H b=some o->w.heap[b]? =some o
 d:∀b,s.E b≠none->s.H b=none
theorem Fits.get{s:St}{w:World}(f:Fits s w){b:Nat}{o:Obj}(h:s.get b=some o):w.heap[b]? =some o:=by
 unfold St.get at h;split at h
 ·rename_i o' K;cases h;exact f.e _ _ K
 ·exact f.h _ _ h
theorem Fits.To{s:St}{w:World}(f:Fits s w){b:Nat}{o:Obj}(h:s.H b=some o):b<w.heap.size:=by
 have:=f.h _ _ h;rcases Nat.lt_or_ge b w.heap.size with K | K
 ·exact K
 ·simp [Array.getElem?_eq_none K] at this
theorem Fits.lt{s:St}{w:World}(f:Fits s w){b:Nat}{o:Obj}(h:s.get b=some o):b<w.heap.size:=by
 have:=f.get h;rcases Nat.lt_or_ge b w.heap.size with K | K
 ·exact K
 ·simp [Array.getElem?_eq_none K] at this
def cellAt(o:Obj)(a:Addr):Option Value:=match o with | .cells c _ _=>if a.spot.isSome then none else c[a.off]? | _=>none
def frozenAt(o:Obj)(a:Addr):Bool:=match o with | .cells _ _ (lo,hi)=>lo<=a.off&&a.off<hi | _=>false
def shapeOf(o:Obj):Option (TypeId×Nat):=match o with | .cells c e _=>some (e,c.size) | _=>none
def BT:Value->Bool | .agg _ | .tuple _=>false | _=>true
def J7(o:Obj)(a:Addr)(v:Value):Obj:=match o with | .cells c e f=> .cells (if a.spot.isSome then c else c.setIfInBounds a.off v) e f | o=>o
def Ja(o:Obj):Bool:=match o with | .cells ..=>false | .chan ..=>false | .pending ..=>false | .view ..=>false | .number ..=>false | _=>true
def St.cell? (s:St)(a:Addr):Option Value:=(s.get a.block).bind (cellAt · a)
def St.upd(s:St)(b:Nat)(o:Obj):St:={s with H:=λx=>if x=b then some o else s.H x}
theorem Qa{w:World}{a:Addr}{o:Obj}(h:w.heap[a.block]? =some o):w.cell? a=cellAt o a:=by
 unfold World.cell? cellAt;rw [h];cases o <;> rfl
theorem PQ{w:World}{a:Addr}{o:Obj}(h:w.heap[a.block]? =some o):w.frozen? a=frozenAt o a:=by
 unfold World.frozen? frozenAt;rw [h];cases o <;> rfl
theorem TN{w:World}{b:Nat}{o:Obj}(h:w.heap[b]? =some o):w.shape? b=shapeOf o:=by
 unfold World.shape? shapeOf;rw [h];cases o <;> rfl
def lp(P:Program){α:Type}:Sem α->St->(α->St->Prop)->(Halt->St->Prop)->Prop
 | .pure a,s,Q,_=>Q a s
 | .load m a k,s,Q,X=>m= .plain/\∃v,s.cell? a=some v/\lp P (k v) s Q X
 | .store m a v k,s,Q,X=>m= .plain/\BT v=true/\∃o,s.H a.block=some o/\(cellAt o a).isSome=true/\frozenAt o a=false/\lp P k (s.upd a.block (J7 o a v)) Q X
 | .new o k,s,Q,X=>s.q=false/\∀r,s.E r=none->s.H r=none->lp P (k r) (s.upd r o) Q X
 | .shape r k,s,Q,X=>∃o,s.get r=some o/\lp P (k (shapeOf o)) s Q X
 | .freeze _ _ _,_,_,_=>False
 | .frozen a k,s,Q,X=>∃o,s.get a.block=some o/\lp P (k (frozenAt o a)) s Q X
 | .getObj r k,s,Q,X=>∃o,s.get r=some o/\Ja o=true/\lp P (k o) s Q X
 | .setObj r o k,s,Q,X=>(∃o₀,s.H r=some o₀/\Ja o₀=true)/\Ja o=true/\lp P k (s.upd r o) Q X
 | .choose q k,s,Q,X=>if q.forced then lp P (k 0) s Q X else s.q=false/\∀t,lp P (k (q.cut t)) s Q X
 | .sys _ _,_,_,_=>False
 | .program k,s,Q,X=>lp P (k P) s Q X
 | .mark m k,s,Q,X=>((s.q=false/\m= .noRoom)∨∃f,m= .extern f)/\lp P k s Q X
 | .halt h,s,_,X=>X h s
theorem Ej{P:Program}{α:Type}(x:Sem α):∀{s:St} {Q V:α->St->Prop} {X Y:Halt->St->Prop},lp P x s Q X->(∀a s,Q a s->V a s)->(∀h s,X h s->Y h s)->lp P x s V Y:=by
 induction x with
 | pure a=>intro s Q V X Y h K O;exact K _ _ h
 | load m a k U=>intro s Q V X Y h K O;obtain⟨Z,v,aa,ab⟩:=h;exact⟨Z,v,aa,U _ ab K O⟩
 | store m a v k U=>intro s Q V X Y h K O;obtain⟨Z,aa,o,ab,ae,ag,ah⟩:=h;exact⟨Z,aa,o,ab,ae,ag,U ah K O⟩
 | new o k U=>intro s Q V X Y h K O;exact⟨h.1,λr Z aa=>U _ (h.2 r Z aa) K O⟩
 | shape r k U=>intro s Q V X Y h K O;obtain⟨o,Z,aa⟩:=h;exact⟨o,Z,U _ aa K O⟩
 | freeze a n k U=>intro s Q V X Y h K O;exact h
 | frozen a k U=>intro s Q V X Y h K O;obtain⟨o,Z,aa⟩:=h;exact⟨o,Z,U _ aa K O⟩
 | getObj r k U=>intro s Q V X Y h K O;obtain⟨o,Z,aa,ab⟩:=h;exact⟨o,Z,aa,U _ ab K O⟩
 | setObj r o k U=>intro s Q V X Y h K O;obtain⟨Z,aa,ab⟩:=h;exact⟨Z,aa,U ab K O⟩
 | choose q k U=>
  intro s Q V X Y h K O;simp only [lp] at h ⊢;split
  ·rename_i ac;rw [if_pos ac] at h;exact U _ h K O
  ·rename_i ac;rw [if_neg ac] at h;exact⟨h.1,λt=>U _ (h.2 t) K O⟩
 | sys c k U=>intro s Q V X Y h K O;exact h
 | program k U=>intro s Q V X Y h K O;exact U _ h K O
 | mark m k U=>intro s Q V X Y h K O;exact⟨h.1,U h.2 K O⟩
 | halt h=>intro s Q V X Y h K O;exact O _ _ h
theorem Av{P:Program}{α β:Type}(x:Sem α)(f:α->Sem β):∀{s:St} {Q:β->St->Prop} {X:Halt->St->Prop},lp P x s (λa s'=>lp P (f a) s' Q X) X->lp P (x>>=f) s Q X:=by
 show ∀{s:St} {Q:β->St->Prop} {X:Halt->St->Prop},lp P x s (λa s'=>lp P (f a) s' Q X) X->lp P (Sem.bind x f) s Q X
 induction x with
 | pure a=>intro s Q X h;exact h
 | load m a k K=>intro s Q X h;obtain⟨O,v,U,V⟩:=h;exact⟨O,v,U,K _ V⟩
 | store m a v k K=>intro s Q X h;obtain⟨O,U,o,V,Z,aa,ab⟩:=h;exact⟨O,U,o,V,Z,aa,K ab⟩
 | new o k K=>intro s Q X h;exact⟨h.1,λr O U=>K _ (h.2 r O U)⟩
 | shape r k K=>intro s Q X h;obtain⟨o,O,U⟩:=h;exact⟨o,O,K _ U⟩
 | freeze a n k K=>intro s Q X h;exact h
 | frozen a k K=>intro s Q X h;obtain⟨o,O,U⟩:=h;exact⟨o,O,K _ U⟩
 | getObj r k K=>intro s Q X h;obtain⟨o,O,U,V⟩:=h;exact⟨o,O,U,K _ V⟩
 | setObj r o k K=>intro s Q X h;obtain⟨O,U,V⟩:=h;exact⟨O,U,K V⟩
 | choose q k K=>
  intro s Q X h;simp only [lp,Sem.bind] at h ⊢;split
  ·rename_i Y;rw [if_pos Y] at h;exact K _ h
  ·rename_i Y;rw [if_neg Y] at h;exact⟨h.1,λt=>K _ (h.2 t)⟩
 | sys c k K=>intro s Q X h;exact h
 | program k K=>intro s Q X h;exact K _ h
 | mark m k K=>intro s Q X h;exact⟨h.1,K h.2⟩
 | halt h=>intro s Q X h;exact h
structure Fr (s:St) (w:World) (s':St) (w':World):Prop where
 size:w.heap.size<=w'.heap.size
 keep:∀b,b<w.heap.size->s.H b=none->w'.heap[b]? =w.heap[b]?
 own:∀b,s'.H b≠none->s.H b≠none∨w.heap.size<=b
 ext:∀b o,s.E b=some o->s'.E b=some o
 ED:∀b,s'.E b≠none->s.E b≠none∨s.H b≠none∨w.heap.size<=b
 tape:w'.tape=w.tape
 os:w'.os=w.os
 output:w'.output=w.output
theorem Fr.refl(s:St)(w:World):Fr s w s w:=
 ⟨Nat.le_refl _,λ_ _ _=>rfl,λ_ h=> .inl h,λ_ _ h=>h,λ_ h=> .inl h,rfl,rfl,rfl⟩
theorem Fr.trans{s K O:St}{w U V:World}(h:Fr s w K U)(k:Fr K U O V):Fr s w O V where
 size:=Nat.le_trans h.size k.size
 keep b hb Y:=by
  rw [k.keep b (Nat.lt_of_lt_of_le hb h.size) ?_,h.keep b hb Y];by_cases Z:K.H b=none
  ·exact Z
  ·rcases h.own b Z with x | x
   ·exact absurd Y x
   ·omega
 own b hb:=by
  rcases k.own b hb with x | x
  ·exact h.own b x
  ·exact .inr (Nat.le_trans h.size x)
 ext b o aa:=k.ext b o (h.ext b o aa)
 ED b hb:=by
  rcases k.ED b hb with x | x | x
  ·exact h.ED b x
  ·rcases h.own b x with y | y
   ·exact .inr (.inl y)
   ·exact .inr (.inr y)
  ·exact .inr (.inr (Nat.le_trans h.size x))
 tape:=k.tape.trans h.tape
 os:=k.os.trans h.os
 output:=k.output.trans h.output
def Gw(s:St)(w w':World)(b:Nat)(write:Bool):Prop:=
 b<w'.heap.size/\(s.H b≠none∨w.heap.size<=b∨(s.E b≠none/\write=false))
def Ev(s:St)(w w':World)(e:Event):Prop:=
 match e.loc with
 | .cell a=>e.sync=false/\Gw s w w' a.block e.write
 | .obj r=>e.sync=false/\Gw s w w' r e.write
 | .mark (.extern _)=>True
 | .mark .noRoom=>True
 | _=>False
theorem Gw.Ag{s K:St}{w O w' U:World}{b:Nat}{wr:Bool}(h:Fr s w K O)(V:w'.heap.size<=U.heap.size)(t:Gw K O w' b wr):Gw s w U b wr:=by
 refine⟨Nat.lt_of_lt_of_le t.1 V,?_⟩;rcases t.2 with x | x | ⟨x,y⟩
 ·rcases h.own b x with z | z
  ·exact .inl z
  ·exact .inr (.inl z)
 ·exact .inr (.inl (Nat.le_trans h.size x))
 ·rcases h.ED b x with z | z | z
  ·exact .inr (.inr ⟨z,y⟩)
  ·exact .inl z
  ·exact .inr (.inl z)
theorem Ev.Ag{s K:St}{w O w' U:World}{e:Event}(h:Fr s w K O)(V:w'.heap.size<=U.heap.size)(t:Ev K O w' e):Ev s w U e:=by
 unfold Ev at t ⊢;split <;> rename_i he <;> simp only [he] at t
 ·exact⟨t.1,t.2.Ag h V⟩
 ·exact⟨t.1,t.2.Ag h V⟩
 ·trivial
 ·trivial
def Kc{α:Type}:Result α->World | .ok _ w=>w | .halt _ w=>w
def XJ{α:Type}(Q:α->St->Prop)(X:Halt->St->Prop)(s:St):Result α->Prop | .ok a _=>Q a s | .halt h _=>X h s
theorem QI{s:St}{b:Nat}{o:Obj}(h:s.get b=some o)(K:s.H b=none):s.E b≠none:=by
 intro e;unfold St.get at h;rw [e] at h;simp only at h;rw [K] at h;cases h
theorem Ok{s:St}{w w':World}{b:Nat}{o:Obj}(f:Fits s w)(U:s.E b=none)(hb:w'.heap[b]? =some o)(V:∀c,c≠b->∀x,w.heap[c]? =some x->w'.heap[c]? =some x):Fits (s.upd b o) w' where
 e c x K:=by
  have O:c≠b:=λe=>by subst e;simp [St.upd] at K;rw [U] at K;cases K
  exact V c O x (f.e c x K)
 h c x K:=by
  simp only [St.upd] at K;split at K
  ·rename_i e;subst e;cases K;exact hb
  ·rename_i O;exact V c O x (f.h c x K)
 d c K:=by
  have O:c≠b:=λe=>by subst e;exact K U
  simp only [St.upd,if_neg O];exact f.d c K
theorem Mo{P:Program}{α:Type}(x:Sem α):∀{s:St} {w:World} {Q:α->St->Prop} {X:Halt->St->Prop},lp P x s Q X->Fits s w->
  ∃s',Fits s' (Kc (x.run P w))/\Fr s w s' (Kc (x.run P w))/\(∀e∈x.events P w #[],Ev s w (Kc (x.run P w)) e)/\XJ Q X s' (x.run P w):=by
 induction x with
 | pure a=>intro s w Q X h f;exact⟨s,f,.refl _ _,by simp [Sem.events_pure'],h⟩
 | load m a k O=>
  intro s w Q X h f;obtain⟨rfl,v,ap,h⟩:=h;obtain⟨o,K,aC⟩:=Option.bind_eq_some_iff.1 ap;have hw:=f.get K;have aq:w.cell? a=some v:=by rw [Qa hw,aC]
  have U:(Sem.load Mode.plain a k).run P w=(k v).run P w:=by simp [Sem.run,aq]
  have V:(Sem.load Mode.plain a k).events P w #[]= #[⟨.cell a,false,false⟩]++(k v).events P w #[]:=by
   rw [← Sem.events_acc];simp only [Sem.events,Sem.runT,aq];rfl
  rw [U,V];obtain⟨s',Z,Y,aa,ab⟩:=O v h f;refine⟨s',Z,Y,λe he=>?_,ab⟩;rcases Array.mem_append.1 he with he | he
  ·simp at he;subst he;refine⟨rfl,Nat.lt_of_lt_of_le (f.lt K) Y.size,?_⟩;by_cases ak:s.H a.block=none
   ·refine .inr (.inr ⟨?_,rfl⟩);exact QI K ak
   ·exact .inl ak
  ·exact aa e he
 | store m a v k O=>
  intro s w Q X h f;obtain⟨rfl,ap,o,K,aq,aD,h⟩:=h;have hw:=f.h _ _ K;obtain⟨u,hu⟩:=Option.isSome_iff_exists.1 aq;have ay:w.cell? a=some u:=by rw [Qa hw,hu]
  have az:w.frozen? a=false:=by rw [PQ hw,aD]
  have ar:=f.To K;obtain⟨av,aw,f0,rfl⟩:∃c e f,o= .cells c e f:=by cases o <;> simp [cellAt] at hu;exact⟨_,_,_,rfl⟩
  have aE:(w.setCell a v).heap[a.block]? =some (J7 (.cells av aw f0) a v):=by
   simp [World.setCell,J7,Array.getElem?_modify,hw]
  have al:∀c,c≠a.block->(w.setCell a v).heap[c]? =w.heap[c]? :=by
   intro c ag;simp [World.setCell,Array.getElem?_modify,Ne.symm ag]
  have ae:s.E a.block=none:=by
   cases ae:s.E a.block with
   | none=>rfl
   | some x=>have:=f.d a.block (by rw [ae];simp);rw [K] at this;cases this
  have am:Fits (s.upd a.block (J7 (.cells av aw f0) a v)) (w.setCell a v):=Ok f ae aE (λc ag x ah=>by rw [al c ag];exact ah);have U:(Sem.store Mode.plain a v k).run P w=k.run P (w.setCell a v):=by
   cases v <;> first | (simp [BT] at ap;done) | simp [Sem.run,ay,az]
  have V:(Sem.store Mode.plain a v k).events P w #[]= #[⟨.cell a,true,false⟩]++k.events P (w.setCell a v) #[]:=by
   rw [← Sem.events_acc];cases v <;> first | (simp [BT] at ap;done) | (simp only [Sem.events,Sem.runT,ay,az];rfl)
  have ac:Fr s w (s.upd a.block (J7 (.cells av aw f0) a v)) (w.setCell a v):=by
   refine⟨by simp [World.setCell],λb hb ai=>al b (λe=>by subst e;rw [K] at ai;cases ai),λb hb=>?_,λ_ _ h=>h,λ_ h=> .inl h,rfl,rfl,rfl⟩;simp only [St.upd] at hb;split at hb
   ·rename_i e;subst e;exact .inl (by rw [K];simp)
   ·exact .inl hb
  rw [U,V];obtain⟨s',Z,Y,aa,ab⟩:=O h am;refine⟨s',Z,ac.trans Y,λe he=>?_,ab⟩;rcases Array.mem_append.1 he with he | he
  ·simp at he;subst he;exact⟨rfl,Nat.lt_of_lt_of_le ar (ac.trans Y).size,.inl (by rw [K];simp)⟩
  ·exact(aa e he).Ag ac (Nat.le_refl _)
 | new o k O=>
  intro s w Q X h f;have aA:s.E w.heap.size=none:=by
   cases ae:s.E w.heap.size with
   | none=>rfl
   | some x=>have:=f.e _ _ ae;simp at this
  have aF:s.H w.heap.size=none:=by
   cases ae:s.H w.heap.size with
   | none=>rfl
   | some x=>have:=f.h _ _ ae;simp at this
  have U:(Sem.new o k).run P w=(k w.heap.size).run P {w with heap:=w.heap.push o}:=by simp [Sem.run]
  have V:(Sem.new o k).events P w #[]=(k w.heap.size).events P {w with heap:=w.heap.push o} #[]:=by simp only [Sem.events,Sem.runT]
  rw [U,V];have am:Fits (s.upd w.heap.size o) {w with heap:=w.heap.push o}:=Ok f aA (by simp) (λc ag x ah=>by
   have:c<w.heap.size:=by
    rcases Nat.lt_or_ge c w.heap.size with an | an
    ·exact an
    ·simp [Array.getElem?_eq_none an] at ah
   simp [Array.getElem?_push,Nat.ne_of_lt this,ah])
  have ac:Fr s w (s.upd w.heap.size o) {w with heap:=w.heap.push o}:=by
   refine⟨by simp,λb hb ai=>by simp [Array.getElem?_push,Nat.ne_of_lt hb],λb hb=>?_,λ_ _ h=>h,λ_ h=> .inl h,rfl,rfl,rfl⟩;simp only [St.upd] at hb;split at hb
   ·rename_i e;subst e;exact .inr (Nat.le_refl _)
   ·exact .inl hb
  obtain⟨s',Z,Y,aa,ab⟩:=O _ (h.2 _ aA aF) am;exact⟨s',Z,ac.trans Y,λe he=>(aa e he).Ag ac (Nat.le_refl _),ab⟩
 | shape r k O=>
  intro s w Q X h f;obtain⟨o,K,h⟩:=h;have ao:=TN (f.get K);have U:(Sem.shape r k).run P w=(k (shapeOf o)).run P w:=by simp [Sem.run,ao]
  have V:(Sem.shape r k).events P w #[]=(k (shapeOf o)).events P w #[]:=by simp only [Sem.events,Sem.runT,ao]
  rw [U,V];exact O _ h f
 | freeze a n k O=>intro s w Q X h f;exact h.elim
 | frozen a k O=>
  intro s w Q X h f;obtain⟨o,K,h⟩:=h;have ao:=PQ (a:=a) (f.get K);have U:(Sem.frozen a k).run P w=(k (frozenAt o a)).run P w:=by simp [Sem.run,ao]
  have V:(Sem.frozen a k).events P w #[]=(k (frozenAt o a)).events P w #[]:=by simp only [Sem.events,Sem.runT,ao]
  rw [U,V];exact O _ h f
 | getObj r k O=>
  intro s w Q X h f;obtain⟨o,K,au,h⟩:=h;have hw:=f.get K;have U:(Sem.getObj r k).run P w=(k o).run P w:=by cases o <;> simp [Ja] at au <;> simp [Sem.run,hw]
  have V:(Sem.getObj r k).events P w #[]= #[⟨.obj r,false,false⟩]++(k o).events P w #[]:=by
   rw [← Sem.events_acc];cases o <;> simp [Ja] at au <;> (simp only [Sem.events,Sem.runT,hw,Obj.isChan];rfl)
  rw [U,V];obtain⟨s',Z,Y,aa,ab⟩:=O o h f;refine⟨s',Z,Y,λe he=>?_,ab⟩;rcases Array.mem_append.1 he with he | he
  ·simp at he;subst he;refine⟨rfl,Nat.lt_of_lt_of_le (f.lt K) Y.size,?_⟩;by_cases ak:s.H r=none
   ·refine .inr (.inr ⟨?_,rfl⟩);exact QI K ak
   ·exact .inl ak
  ·exact aa e he
 | setObj r o k O=>
  intro s w Q X h f;obtain⟨⟨o₀,K,aB⟩,au,h⟩:=h;have hw:=f.h _ _ K;have ar:=f.To K;have ae:s.E r=none:=by
   cases ae:s.E r with
   | none=>rfl
   | some x=>have:=f.d r (by rw [ae];simp);rw [K] at this;cases this
  have U:(Sem.setObj r o k).run P w=k.run P {w with heap:=w.heap.setIfInBounds r o}:=by
   cases o₀ <;> simp [Ja] at aB <;> simp [Sem.run,hw]
  have V:(Sem.setObj r o k).events P w #[]= #[⟨.obj r,true,false⟩]++k.events P {w with heap:=w.heap.setIfInBounds r o} #[]:=by
   rw [← Sem.events_acc];cases o₀ <;> simp [Ja] at aB <;> cases o <;> simp [Ja] at au <;> (simp only [Sem.events,Sem.runT,hw,Obj.isChan];rfl)
  have al:∀c,c≠r->(w.heap.setIfInBounds r o)[c]? =w.heap[c]? :=λc ag=>by simp [Ne.symm ag]
  have am:Fits (s.upd r o) {w with heap:=w.heap.setIfInBounds r o}:=Ok f ae (by simp [ar]) (λc ag x ah=>by show(w.heap.setIfInBounds r o)[c]? =_;rw [al c ag];exact ah);have ac:Fr s w (s.upd r o) {w with heap:=w.heap.setIfInBounds r o}:=by
   refine⟨by simp,λb hb ai=>al b (λe=>by subst e;rw [K] at ai;cases ai),λb hb=>?_,λ_ _ h=>h,λ_ h=> .inl h,rfl,rfl,rfl⟩;simp only [St.upd] at hb;split at hb
   ·rename_i e;subst e;exact .inl (by rw [K];simp)
   ·exact .inl hb
  rw [U,V];obtain⟨s',Z,Y,aa,ab⟩:=O h am;refine⟨s',Z,ac.trans Y,λe he=>?_,ab⟩;rcases Array.mem_append.1 he with he | he
  ·simp at he;subst he;exact⟨rfl,Nat.lt_of_lt_of_le ar (ac.trans Y).size,.inl (by rw [K];simp)⟩
  ·exact(aa e he).Ag ac (Nat.le_refl _)
 | choose q k O=>
  intro s w Q X h f;simp only [lp] at h;by_cases aj:q.forced
  ·rw [if_pos aj] at h;have U:(Sem.choose q k).run P w=(k 0).run P w:=by simp [Sem.run,aj]
   have V:(Sem.choose q k).events P w #[]=(k 0).events P w #[]:=by simp only [Sem.events,Sem.runT];rw [if_pos aj]
   rw [U,V];exact O _ h f
  ·rw [if_neg aj] at h;have U:(Sem.choose q k).run P w=(k (q.cut (w.tape w.drawn q))).run P {w with drawn:=w.drawn+1}:=by simp [Sem.run,aj]
   have V:(Sem.choose q k).events P w #[]=(k (q.cut (w.tape w.drawn q))).events P {w with drawn:=w.drawn+1} #[]:=by simp only [Sem.events,Sem.runT];rw [if_neg aj]
   rw [U,V];have ac:Fr s w s {w with drawn:=w.drawn+1}:=⟨Nat.le_refl _,λ_ _ _=>rfl,λ_ h=> .inl h,λ_ _ h=>h,λ_ h=> .inl h,rfl,rfl,rfl⟩;obtain⟨s',Z,Y,aa,ab⟩:=O _ (h.2 (w.tape w.drawn q)) (⟨f.e,f.h,f.d⟩:Fits s {w with drawn:=w.drawn+1});exact⟨s',Z,ac.trans Y,λe he=>(aa e he).Ag ac (Nat.le_refl _),ab⟩
 | sys c k O=>intro s w Q X h f;exact h.elim
 | program k O=>
  intro s w Q X h f;have U:(Sem.program k).run P w=(k P).run P w:=by simp [Sem.run]
  have V:(Sem.program k).events P w #[]=(k P).events P w #[]:=by simp only [Sem.events,Sem.runT]
  rw [U,V];exact O _ h f
 | mark m k O=>
  intro s w Q X h f;have U:(Sem.mark m k).run P w=k.run P w:=by simp [Sem.run]
  have V:(Sem.mark m k).events P w #[]= #[⟨.mark m,false,true⟩]++k.events P w #[]:=by
   rw [← Sem.events_acc];simp only [Sem.events,Sem.runT];rfl
  rw [U,V];obtain⟨hm,h⟩:=h;obtain⟨s',Z,Y,aa,ab⟩:=O h f;refine⟨s',Z,Y,λe he=>?_,ab⟩;rcases Array.mem_append.1 he with he | he
  ·simp at he;subst he;rcases hm with⟨_,rfl⟩ | ⟨g,rfl⟩ <;> trivial
  ·exact aa e he
 | halt h=>intro s w Q X an f;exact⟨s,f,.refl _ _,by simp [Sem.events_halt],an⟩
theorem PU{P:Program}{fn:FuncId}{es:Array Event}(h:∀e∈es,∃f,e.loc= .mark (.extern f)):seen P fn es= #[]:=by
 rw [seen_def];have:∀(l:List Event) (q:Bool),(∀e∈l,∃f,e.loc= .mark (.extern f))->(l.foldl (seenStep λf=>(P.funcs[f]?).any (·.norace)) (q,#[])).2= #[]:=by
  intro l
  induction l with
  | nil=>intro q _;rfl
  | cons e l K=>
   intro q h;obtain⟨f,O⟩:=h e (by simp);rw [List.foldl_cons];have:seenStep (λf=>(P.funcs[f]?).any (·.norace)) (q,#[]) e=((P.funcs[f]?).any (·.norace),#[]):=by simp [seenStep,O]
   rw [this];exact K _ λx U=>h x (by simp [U])
 exact this es.toList _ λe he=>h e (Array.mem_toList_iff.1 he)
def St.quiet:St:=⟨λ_=>none,λ_=>none,true⟩
theorem QZ{P:Program}{α:Type}(x:Sem α):∀{Q:α->St->Prop} {X:Halt->St->Prop},lp P x .quiet Q X->
  ∃es,(∀w,x.events P w #[]=es)/\(∀e∈es,∃f,e.loc= .mark (.extern f))/\((∃a,Q a .quiet/\(∀w,x.run P w= .ok a w))∨(∃a,X a .quiet/\(∀w,x.run P w= .halt a w))):=by
 induction x with
 | pure a=>intro Q X h;exact⟨#[],λw=>by simp [Sem.events_pure'],by simp,.inl ⟨a,h,λw=>rfl⟩⟩
 | load m a k K=>intro Q X h;obtain⟨_,v,Y,_⟩:=h;simp [St.cell?,St.get,St.quiet] at Y
 | store m a v k K=>intro Q X h;obtain⟨_,_,o,Z,_⟩:=h;cases Z
 | new o k K=>intro Q X h;cases h.1
 | shape r k K=>intro Q X h;obtain⟨o,O,_⟩:=h;simp [St.get,St.quiet] at O
 | freeze a n k K=>intro Q X h;exact h.elim
 | frozen a k K=>intro Q X h;obtain⟨o,O,_⟩:=h;simp [St.get,St.quiet] at O
 | getObj r k K=>intro Q X h;obtain⟨o,O,_⟩:=h;simp [St.get,St.quiet] at O
 | setObj r o k K=>intro Q X h;obtain⟨⟨o,O,_⟩,_⟩:=h;cases O
 | choose q k K=>
  intro Q X h;simp only [lp] at h;by_cases U:q.forced
  ·rw [if_pos U] at h;have V:∀w,(Sem.choose q k).run P w=(k 0).run P w:=λw=>by simp [Sem.run,U]
   have e2:∀w,(Sem.choose q k).events P w #[]=(k 0).events P w #[]:=λw=>by simp only [Sem.events,Sem.runT];rw [if_pos U]
   simpa only [V,e2] using K _ h
  ·rw [if_neg U] at h;cases h.1
 | sys c k K=>intro Q X h;exact h.elim
 | program k K=>
  intro Q X h;have V:∀w,(Sem.program k).run P w=(k P).run P w:=λw=>by simp [Sem.run]
  have e2:∀w,(Sem.program k).events P w #[]=(k P).events P w #[]:=λw=>by simp only [Sem.events,Sem.runT]
  simpa only [V,e2] using K _ h
 | mark m k K=>
  intro Q X h;obtain⟨hm,h⟩:=h;obtain⟨es,O,Y,Z⟩:=K h;have V:∀w,(Sem.mark m k).run P w=k.run P w:=λw=>by simp [Sem.run]
  have e2:∀w,(Sem.mark m k).events P w #[]= #[⟨.mark m,false,true⟩]++k.events P w #[]:=λw=>by rw [← Sem.events_acc];simp only [Sem.events,Sem.runT];rfl
  refine⟨#[⟨.mark m,false,true⟩]++es,λw=>by rw [e2,O],λe he=>?_,by simpa only [V] using Z⟩;rcases Array.mem_append.1 he with he | he
  ·simp at he;subst he;rcases hm with⟨U,_⟩ | hm
   ·cases U
   ·obtain⟨f,rfl⟩:=hm;exact⟨f,rfl⟩
  ·exact Y e he
 | halt h=>intro Q X aa;exact⟨#[],λw=>by simp [Sem.events_halt],by simp,.inr ⟨h,aa,λw=>rfl⟩⟩
end Pal
namespace Pal
open Go Go.Conc
def SJ(P:Program)(main:Bool)(g:Goroutine)(s:St)(K:Gs_):Prop:=
 g.status= .running/\(∀w,Fits s w->
  ∃g' s' w' es,stepG P main g w= .go g' w' es/\K g' s'/\Fits s' w'/\Fr s w s' w'/\(∀e∈es,Ev s w w' e))/\
  (s= .quiet->∃g',(∀w,stepG P main g w= .go g' w #[])/\K g' .quiet)
structure Cl (s s₀:St):Prop where
 ext:∀b o,s.E b=some o->s₀.E b=some o
 own:∀b o,s₀.H b=some o->s.H b=some o
 ED:∀b o,s₀.E b=some o->s.E b=some o∨(s.H b=some o/\s₀.H b=none)
 q:s₀.q=s.q
theorem Cl.refl(s:St):Cl s s:=⟨λ_ _ h=>h,λ_ _ h=>h,λ_ _ h=> .inl h,rfl⟩
theorem Cl.fits{s s₀:St}(g:Cl s s₀){w:World}(f:Fits s w):Fits s₀ w where
 e b o h:=by
  rcases g.ED b o h with x | x
  ·exact f.e _ _ x
  ·exact f.h _ _ x.1
 h b o h:=f.h _ _ (g.own _ _ h)
 d b h:=by
  cases K:s₀.E b with
  | none=>exact absurd K h
  | some o=>
   rcases g.ED b o K with x | x
   ·cases O:s₀.H b with
    | none=>rfl
    | some y=>have:=g.own _ _ O;rw [f.d b (by rw [x];simp)] at this;cases this
   ·exact x.2
theorem HK{α:Type}{x:Option α}(h:x≠none):∃a,x=some a:=by cases x <;> simp at h;exact⟨_,rfl⟩
theorem Cl.fr{s s₀ s':St}{w w':World}(g:Cl s s₀)(f:Fr s₀ w s' w'):Fr s w s' w' where
 size:=f.size
 keep b hb O:=f.keep b hb (by
  cases h:s₀.H b with
  | none=>rfl
  | some o=>rw [g.own _ _ h] at O;cases O)
 own b hb:=(f.own b hb).imp (λh=>by obtain⟨o,K⟩:=HK h;rw [g.own _ _ K];simp) id
 ext b o h:=f.ext _ _ (g.ext _ _ h)
 ED b hb:=by
  rcases f.ED b hb with h | h | h
  ·obtain⟨o,K⟩:=HK h;rcases g.ED _ _ K with x | x
   ·exact .inl (by rw [x];simp)
   ·exact .inr (.inl (by rw [x.1];simp))
  ·obtain⟨o,K⟩:=HK h;exact .inr (.inl (by rw [g.own _ _ K];simp))
  ·exact .inr (.inr h)
 tape:=f.tape
 os:=f.os
 output:=f.output
theorem Cl.Gw{s s₀:St}{w w':World}{b:Nat}{wr:Bool}(g:Cl s s₀)(t:Gw s₀ w w' b wr):Gw s w w' b wr:=by
 refine⟨t.1,?_⟩;rcases t.2 with h | h | ⟨h,hw⟩
 ·obtain⟨o,K⟩:=HK h;exact .inl (by rw [g.own _ _ K];simp)
 ·exact .inr (.inl h)
 ·obtain⟨o,K⟩:=HK h;rcases g.ED _ _ K with x | x
  ·exact .inr (.inr ⟨by rw [x];simp,hw⟩)
  ·exact .inl (by rw [x.1];simp)
theorem Cl.ev{s s₀:St}{w w':World}{e:Event}(g:Cl s s₀)(t:Ev s₀ w w' e):Ev s w w' e:=by
 unfold Ev at t ⊢;split <;> rename_i he <;> simp only [he] at t
 ·exact⟨t.1,g.Gw t.2⟩
 ·exact⟨t.1,g.Gw t.2⟩
 ·trivial
 ·trivial
theorem Cl.quiet{s₀:St}(g:Cl .quiet s₀):s₀= .quiet:=by
 obtain⟨E,H,q⟩:=s₀;have K:E=λ_=>none:=by
  funext b;cases h:E b with
  | none=>rfl
  | some o=>rcases g.ED b o h with x | ⟨x,_⟩ <;> cases x
 have O:H=λ_=>none:=by
  funext b;cases h:H b with
  | none=>rfl
  | some o=>cases g.own b o h
 have U:q=true:=g.q;subst K O U;rfl
inductive Rk:Type where
 | leaf:Rk
 | node (f:World->Rk):Rk
def Rk.sub(a b:Rk):Prop:=∃f w,b= .node f/\a=f w
theorem Rk.wf:WellFounded Rk.sub:=⟨λr=>by
 induction r with
 | leaf=>exact⟨_,λa ⟨f,w,h,_⟩=>by cases h⟩
 | node f K=>exact⟨_,λa ⟨g,w,h,e⟩=>by cases h;subst e;exact K w⟩⟩
def Jr(P:Program)(main:Bool)(Q:Gs_):Rk->Gs_
 | .leaf,g,s=>Q g s
 | .node f,g,s=>Q g s∨(g.status= .running/\∀w,Fits s w->
  ∃g' s' w' es,stepG P main g w= .go g' w' es/\Jr P main Q (f w) g' s'/\Fits s' w'/\Fr s w s' w'/\(∀e∈es,Ev s w w' e)/\(s= .quiet->s'= .quiet/\w'=w/\es= #[]))
structure Judge (P:Program) where
 main:Bool
 ok:(Gs_)->Gs_
 stop:∀{Q g s},Q g s->ok Q g s
 step:∀{Q g s},SJ P main g s (ok Q)->ok Q g s
 trans:∀{Q R g s},ok Q g s->(∀g' s',Q g' s'->ok R g' s')->ok R g s
 ghost:∀{Q g s s₀},Cl s s₀->ok Q g s₀->ok Q g s
def JQ(Q:Gs_)(g:Goroutine)(s:St):Prop:=∃s₀,Cl s s₀/\Q g s₀
theorem Cl.trans{a b c:St}(h:Cl a b)(k:Cl b c):Cl a c where
 ext x o y:=k.ext _ _ (h.ext _ _ y)
 own x o y:=h.own _ _ (k.own _ _ y)
 ED x o y:=by
  rcases k.ED x o y with z | z
  ·rcases h.ED x o z with u | u
   ·exact .inl u
   ·refine .inr ⟨u.1,?_⟩;cases K:c.H x with
    | none=>rfl
    | some v=>have:=k.own _ _ K;rw [u.2] at this;cases this
  ·exact .inr ⟨h.own _ _ z.1,z.2⟩
 q:=k.q.trans h.q
def A1(P:Program)(main:Bool):Judge P where
 main:=main
 ok Q g s:=∃r,Jr P main (JQ Q) r g s
 stop h:=⟨.leaf,_,.refl _,h⟩
 step {Q g s} h:=by
  obtain⟨U,h,hu⟩:=h;have ab:∀w,∃r:Rk,Fits s w->∃g' s' w' es,stepG P main g w= .go g' w' es/\Jr P main (JQ Q) r g' s'/\Fits s' w'/\Fr s w s' w'/\(∀e∈es,Ev s w w' e)/\(s= .quiet->s'= .quiet/\w'=w/\es= #[]):=by
   intro w;by_cases f:Fits s w
   ·by_cases e:s= .quiet
    ·obtain⟨g',K,r,O⟩:=hu e;exact⟨r,λ_=>⟨g',.quiet,w,#[],K w,O,e▸f,e▸ .refl _ _,by simp,λ_=>⟨rfl,rfl,rfl⟩⟩⟩
    ·obtain⟨g',s',w',es,K,⟨r,O⟩,Z,ac,ae⟩:=h w f;exact⟨r,λ_=>⟨g',s',w',es,K,O,Z,ac,ae,λx=>absurd x e⟩⟩
   ·exact⟨.leaf,λx=>absurd x f⟩
  exact⟨.node λw=>Classical.choose (ab w),.inr ⟨U,λw f=>Classical.choose_spec (ab w) f⟩⟩
 trans {Q R g s} h k:=by
  obtain⟨r,h⟩:=h;have ah:∀(r:Rk) {g:Goroutine} {s s₀:St},Cl s s₀->Jr P main (JQ R) r g s₀->Jr P main (JQ R) r g s:=by
   intro r g s s₀ V Y;cases r with
   | leaf=>obtain⟨aa,K,O⟩:=Y;exact⟨aa,V.trans K,O⟩
   | node f=>
    rcases Y with⟨aa,K,O⟩ | ⟨U,Y⟩
    ·exact .inl ⟨aa,V.trans K,O⟩
    ·exact .inr ⟨U,λw f=>let ⟨g',s',w',es,K,O,Z,ac,ae,ag⟩:=Y w (V.fits f);⟨g',s',w',es,K,O,Z,V.fr ac,λe he=>V.ev (ae e he),λe=>ag (by subst e;exact V.quiet)⟩⟩
  induction r generalizing g s with
  | leaf=>
   obtain⟨s₀,K,O⟩:=h;obtain⟨r,U⟩:=k _ _ O;exact⟨r,ah r K U⟩
  | node f aj=>
   rcases h with⟨s₀,K,O⟩ | ⟨U,h⟩
   ·obtain⟨r,U⟩:=k _ _ O;exact⟨r,ah r K U⟩
   ·have ab:∀w,∃r:Rk,Fits s w->∃g' s' w' es,stepG P main g w= .go g' w' es/\Jr P main (JQ R) r g' s'/\Fits s' w'/\Fr s w s' w'/\(∀e∈es,Ev s w w' e)/\(s= .quiet->s'= .quiet/\w'=w/\es= #[]):=by
     intro w;by_cases ai:Fits s w
     ·obtain⟨g',s',w',es,K,O,Z⟩:=h w ai;obtain⟨r,U⟩:=aj w O;exact⟨r,λ_=>⟨g',s',w',es,K,U,Z⟩⟩
     ·exact⟨.leaf,λx=>absurd x ai⟩
    exact⟨.node λw=>Classical.choose (ab w),.inr ⟨U,λw f=>Classical.choose_spec (ab w) f⟩⟩
 ghost {Q g s s₀} V h:=by
  obtain⟨r,Y⟩:=h;refine⟨r,?_⟩;cases r with
  | leaf=>obtain⟨aa,K,O⟩:=Y;exact⟨aa,V.trans K,O⟩
  | node f=>
   rcases Y with⟨aa,K,O⟩ | ⟨U,Y⟩
   ·exact .inl ⟨aa,V.trans K,O⟩
   ·exact .inr ⟨U,λw f=>let ⟨g',s',w',es,K,O,Z,ac,ae,ag⟩:=Y w (V.fits f);⟨g',s',w',es,K,O,Z,V.fr ac,λe he=>V.ev (ae e he),λe=>ag (by subst e;exact V.quiet)⟩⟩
def Lv(P:Program)(Q:Gs_):Nat->Goroutine->Prop
 | 0,g=>Q g .quiet
 | n+1,g=>Q g .quiet∨(g.status= .running/\∃g',(∀w,stepG P false g w= .go g' w #[])/\Lv P Q n g')
def HP(P:Program):Judge P where
 main:=false
 ok Q g s:=s= .quiet->∃n,Lv P Q n g
 stop h e:=⟨0,by subst e;exact h⟩
 step {Q g s} h e:=by
  obtain⟨g',K,O⟩:=h.2.2 e;obtain⟨n,U⟩:=O rfl;exact⟨n+1,.inr ⟨h.1,g',K,U⟩⟩
 trans {Q R g s} h k e:=by
  obtain⟨n,U⟩:=h e;have:∀n g,Lv P Q n g->∃m,Lv P R m g:=by
   intro n
   induction n with
   | zero=>intro g h;exact k _ _ h rfl
   | succ n V=>
    intro g h;rcases h with h | ⟨Y,g',K,O⟩
    ·exact k _ _ h rfl
    ·obtain⟨m,hm⟩:=V g' O;exact⟨m+1,.inr ⟨Y,g',K,hm⟩⟩
  exact this n g U
 ghost {Q g s s₀} Z h e:=by subst e;exact h Z.quiet
end Pal
namespace Pal
open Go Go.Conc
def fr(b:Frame)(T:Av_)(ds:Ld_)(todo:Li_):Frame:={b with tmps:=T,todo:=todo,defers:=ds,mode:= .run}
def Em(b:Frame)(T:Av_)(ds:Ld_)(todo:Li_):Frame:={b with tmps:=T,todo:=todo,defers:=ds,mode:= .returning}
def By(T:Av_):Operand->Value
 | .tmp t=>T.getD t undef
 | .const v=>v
 | .global g=> .pointer (some ⟨g,0,none⟩)
 | .func f=> .func (.func f) #[] #[]
abbrev Env:=List (Nat×Value)
def look:Env->Nat->Option Value
 | [],_=>none
 | (t,v)::L,u=>if t=u then some v else look L u
def ev(L:Env):Operand->Option Value
 | .tmp t=>look L t
 | .const v=>some v
 | .global g=>some (.pointer (some ⟨g,0,none⟩))
 | .func f=>some (.func (.func f) #[] #[])
structure Has (n:Nat) (L:Env) (T:Av_):Prop where
 size:T.size=n
 at_:∀t v,look L t=some v->T.getD t undef=v
theorem Has.ev{n:Nat}{L:Env}{T:Av_}(h:Has n L T){x:Operand}{v:Value}(e:ev L x=some v):By T x=v:=by
 cases x with
 | tmp t=>exact h.at_ t v e
 | const u=>cases e;rfl
 | global g=>cases e;rfl
 | func f=>cases e;rfl
def CM(T:Av_):Option Tmp->Value->Av_
 | some d,v=>T.setIfInBounds d v
 | none,_=>T
def Ax(L:Env):Option Tmp->Value->Env
 | some d,v=>(d,v)::L
 | none,_=>L
def Bh(n:Nat):Option Tmp->Bool
 | some d=>d<n
 | none=>true
theorem Vt(T:Av_)(d:Nat)(v:Value)(h:d<T.size)(t:Nat):(T.setIfInBounds d v).getD t undef=if d=t then v else T.getD t undef:=by
 by_cases e:d=t
 ·subst e;simp [Array.getD_eq_getD_getElem?,h]
 ·simp [Array.getD_eq_getD_getElem?,e]
theorem Has.put{n:Nat}{L:Env}{T:Av_}(h:Has n L T){d:Option Tmp}(hd:Bh n d=true)(v:Value):Has n (Ax L d v) (CM T d v):=by
 cases d with
 | none=>exact h
 | some d=>
  have K:d<T.size:=by rw [h.size];simpa [Bh] using hd
  refine⟨by simp [CM,h.size],λt u hu=>?_⟩;simp only [CM,Vt T d v K];simp only [Ax,look] at hu;split at hu
  ·rename_i e;rw [if_pos e];exact Option.some.inj hu
  ·rename_i e;rw [if_neg e];exact h.at_ t u hu
def Sub:Env->Env->Prop
 | [],_=>True
 | (t,v)::L',L=>look L t=some v/\Sub L' L
theorem Sub.look{L:Env}:∀{L':Env},Sub L' L->∀t v,look L' t=some v->Pal.look L t=some v
 | [],_,t,v,e=>by simp [Pal.look] at e
 | (u,w)::L',h,t,v,e=>by
  simp only [Pal.look] at e
  split at e
  ·rename_i K;subst K;cases e;exact h.1
  ·exact Sub.look h.2 t v e
theorem Has.sub{n:Nat}{L L':Env}{T:Av_}(h:Has n L T)(s:Sub L' L):Has n L' T:=⟨h.size,λt v e=>h.at_ t v (s.look t v e)⟩
section
variable {P:Program}(J:Judge P)(Q:Gs_)
def JL(b:Frame)(n:Nat)(L:Env)(ds:Ld_)(todo:Li_)(cs:Lf_)(s:St):Prop:=
 ∀T,Has n L T->J.ok Q (G (fr b T ds todo) cs) s
end
section
variable {P:Program}{J:Judge P}{Q:Gs_}{b:Frame}{n:Nat}{L L':Env}{ds:Ld_}{k:Li_}{cs:Lf_}{s s':St}
theorem Judge.Db{g g':Goroutine}(K:g.status= .running)(h:∀w,stepG P J.main g w= .go g' w)(k:J.ok Q g' s):J.ok Q g s:=
 J.step ⟨K,λw f=>⟨g',s,w,#[],h w,k,f,.refl _ _,by simp⟩,λe=>⟨g',h,e▸k⟩⟩
theorem C3(h:Sub L' L)(k':JL J Q b n L' ds k cs s):JL J Q b n L ds k cs s:=λT K=>k' T (K.sub h)
theorem JL.ghost(h:Cl s s')(k':JL J Q b n L ds k cs s'):JL J Q b n L ds k cs s:=λT K=>J.ghost h (k' T K)
theorem JL.skip(h:JL J Q b n L ds k cs s):JL J Q b n L ds (.code .skip::k) cs s:=λT K=>Judge.Db rfl (λw=>by simp [G,stepG,stepG.exec,fr]) (h T K)
theorem JL.label{l:Nat}(h:JL J Q b n L ds k cs s):JL J Q b n L ds (.code (.label l)::k) cs s:=λT K=>Judge.Db rfl (λw=>by simp [G,stepG,stepG.exec,fr]) (h T K)
theorem Gb{i:Nat}(h:JL J Q b n L ds k cs s):JL J Q b n L ds (.inBlock i::k) cs s:=λT K=>Judge.Db rfl (λw=>by simp [G,stepG,stepG.exec,fr]) (h T K)
theorem TT{c:Code}(h:JL J Q b n L ds k cs s):JL J Q b n L ds (.inScope c::k) cs s:=λT K=>Judge.Db rfl (λw=>by simp [G,stepG,stepG.exec,fr]) (h T K)
theorem JL.seq{x y:Code}(h:JL J Q b n L ds (.code x:: .code y::k) cs s):JL J Q b n L ds (.code (.seq x y)::k) cs s:=λT K=>Judge.Db rfl (λw=>by simp [G,stepG,stepG.exec,fr]) (h T K)
theorem JL.block{i:Nat}{c:Code}(h:JL J Q b n L ds (.code c:: .inBlock i::k) cs s):JL J Q b n L ds (.code (.block i c)::k) cs s:=λT K=>Judge.Db rfl (λw=>by simp [G,stepG,stepG.exec,fr]) (h T K)
theorem JL.scope{c:Code}(h:JL J Q b n L ds (.code c:: .inScope c::k) cs s):JL J Q b n L ds (.code (.scope c)::k) cs s:=λT K=>Judge.Db rfl (λw=>by simp [G,stepG,stepG.exec,fr]) (h T K)
theorem Ii{c:Code}(h:JL J Q b n L ds (.code c:: .inLoop c::k) cs s):JL J Q b n L ds (.code (.loop c)::k) cs s:=λT K=>Judge.Db rfl (λw=>by simp [G,stepG,stepG.exec,fr]) (h T K)
theorem JL.again{c:Code}(h:JL J Q b n L ds (.code c:: .inLoop c::k) cs s):JL J Q b n L ds (.inLoop c::k) cs s:=λT K=>Judge.Db rfl (λw=>by simp [G,stepG,stepG.exec,fr]) (h T K)
theorem JL.exit{i:Nat}{k':Li_}(K:exitTo i k=some k')(h:JL J Q b n L ds k' cs s):JL J Q b n L ds (.code (.exit i)::k) cs s:=λT O=>Judge.Db rfl (λw=>by simp [G,stepG,stepG.exec,fr,K]) (h T O)
theorem RU(T:Av_)(todo:Li_)(x:Operand):(fr b T ds todo).eval x=By T x:=by cases x <;> rfl
theorem QC(T:Av_)(todo:Li_):(fr b T ds todo).eval=By T:=funext (RU T todo)
theorem JL.cond{c:Operand}{x y:Code}{t:Bool}(U:ev L c=some (.bool t))(h:JL J Q b n L ds (.code (if t then x else y)::k) cs s):JL J Q b n L ds (.code (.cond c x y)::k) cs s:=λT O=>
 Judge.Db rfl (λw=>by
  have K:=RU (b:=b) (ds:=ds) T (.code (.cond c x y)::k) c
  rw [O.ev U] at K
  simp only [fr] at K
  simp [G,stepG,stepG.exec,fr,K]) (h T O)
theorem I7{c:Operand}{x y:Code}(K:ev L c=some (.bool true))(h:JL J Q b n L ds (.code x::k) cs s):JL J Q b n L ds (.code (.cond c x y)::k) cs s:=JL.cond K h
theorem JW{c:Operand}{x y:Code}(K:ev L c=some (.bool false))(h:JL J Q b n L ds (.code y::k) cs s):JL J Q b n L ds (.code (.cond c x y)::k) cs s:=JL.cond K h
theorem IL{c:Operand}{x y:Code}{t:Bool}(K:ev L c=some (.bool t))(O:t=true->JL J Q b n L ds (.code x::k) cs s)(U:t=false->JL J Q b n L ds (.code y::k) cs s):JL J Q b n L ds (.code (.cond c x y)::k) cs s:=by
 cases t
 ·exact JL.cond K (U rfl)
 ·exact JL.cond K (O rfl)
theorem C4{c:Operand}{x y:Code}{p:Prop} [Decidable p] (K:ev L c=some (.bool (decide p)))(O:p->JL J Q b n L ds (.code x::k) cs s)(U:¬p->JL J Q b n L ds (.code y::k) cs s):JL J Q b n L ds (.code (.cond c x y)::k) cs s:=
 IL K (λh=>O (of_decide_eq_true h)) (λh=>U (of_decide_eq_false h))
theorem JL.loop{α:Type}{c:Code}(I:α->Prop)(O:α->Nat)(U:α->Env)(V:α->St)(Y:α)(Z:I Y)(aa:L=U Y)(ab:s=V Y)
  (round:∀a,I a->(∀K,I K->O K<O a->JL J Q b n (U K) ds (.inLoop c::k) cs (V K))->JL J Q b n (U a) ds (.code c:: .inLoop c::k) cs (V a)):
  JL J Q b n L ds (.code (.loop c)::k) cs s:=by
 refine Ii ?_;subst aa ab;have key:∀m a,O a=m->I a->JL J Q b n (U a) ds (.code c:: .inLoop c::k) cs (V a):=by
  intro m
  induction m using Nat.strongRecOn with
  | _ m ac=>intro a hm ae;exact round a ae λK ag ah=>JL.again (ac (O K) (hm▸ah) K rfl ag)
 exact key _ Y rfl Z
theorem JL.region{id:Nat}{ops:Ao_}(h:JL J Q b n L ds (.inRegion ops (List.range ops.size)::k) cs s):JL J Q b n L ds (.code (.region id ops false)::k) cs s:=λT K=>Judge.Db rfl (λw=>by simp [G,stepG,stepG.exec,fr]) (h T K)
theorem JL.done{ops:Ao_}(h:JL J Q b n L ds k cs s):JL J Q b n L ds (.inRegion ops []::k) cs s:=λT K=>Judge.Db rfl (λw=>by simp [G,stepG,stepG.exec,fr]) (h T K)
theorem Ry{id:Nat}{ops:Ao_}(K:s.q=false)(hm:P.follows .mixedOrders=true)(h:∀t,JL J Q b n L ds (.inRegion ops (Region.linearise .any ops t)::k) cs s):JL J Q b n L ds (.code (.region id ops true)::k) cs s:=λT O=>by
 refine J.step ⟨rfl,λw f=>⟨_,s,{w with drawn:=w.drawn+1},#[],?_,h (w.tape w.drawn (.order b.fn id)) T O,⟨f.e,f.h,f.d⟩,⟨Nat.le_refl _,λ_ _ _=>rfl,λ_ h=> .inl h,λ_ _ h=>h,λ_ h=> .inl h,rfl,rfl,rfl⟩,by simp⟩,λe=>by subst e;cases K⟩
 simp [G,stepG,stepG.exec,fr,choose,Sem.run,Question.forced,Question.cut,Region.schedule,hm]
theorem Gc(T:Av_)(ops:Ao_)(i:Nat)(rest:List Nat)(v:Value)(o:Oper)(K:ops[i]? =some o):
  (fr b T ds (.inRegion ops (i::rest)::k)).finish v=fr b (CM T o.dst v) ds (.inRegion ops rest::k):=by
 cases hd:o.dst <;> simp [Frame.finish,fr,K,hd,CM]
theorem stepG_op{main:Bool}{T:Av_}{ops:Ao_}{i:Nat}{rest:List Nat}{o:Oper}{w:World}(K:ops[i]? =some o)(hw:Region.wanted o (yielded ops T)=true):
  stepG P main (G (fr b T ds (.inRegion ops (i::rest)::k)) cs) w=
   match b.roundOf,o.op with
   | some l,.defer c=>stepG.apply P true (fr b T ds (.inRegion ops (i::rest)::k)) cs none (do Instr.deferInRound l (← resolve (By T) c o.type);pure .skip) w
   | _,_=>stepG.apply P true (fr b T ds (.inRegion ops (i::rest)::k)) cs none (execOp (By T) o) w:=by
 have he:=QC (b:=b) (ds:=ds) T (.inRegion ops (i::rest)::k);simp only [fr] at he;simp only [G,stepG,stepG.exec,fr,K,Option.map_some,Option.getD_some,hw,if_true,stepG.oper,Frame.oper?,he]
 rfl
theorem FO(T:Av_)(todo:Li_):(fr b T ds todo).fn=b.fn:=rfl
theorem HQ(T:Av_)(todo:Li_):(fr b T ds todo).todo=todo:=rfl
def upon(J:Judge P)(Q:Gs_)(b:Frame)(T:Av_)(ds:Ld_)(ops:Ao_)(i:Nat)(rest:List Nat)(k:Li_)(cs:Lf_)(dst:Option Tmp):Next->St->Prop
 | .value v,s=>J.ok Q (G (fr b (CM T dst v) ds (.inRegion ops rest::k)) cs) s
 | .skip,s=>J.ok Q (G (fr b (CM T dst undef) ds (.inRegion ops rest::k)) cs) s
 | .defer d,s=>J.ok Q (G (fr b (CM T dst undef) (d::ds) (.inRegion ops rest::k)) cs) s
 | .enter f args,s=>J.ok Q (G (Frame.enter P f args .normal) (fr b T ds (.inRegion ops (i::rest)::k)::cs)) s
 | .round l f tmps assign body,s=>J.ok Q (G (Frame.round l f tmps assign body .normal) (fr b T ds (.inRegion ops (i::rest)::k)::cs)) s
 | _,_=>False
def KW(J:Judge P)(Q:Gs_)(b:Frame)(T:Av_)(ds:Ld_)(ops:Ao_)(i:Nat)(rest:List Nat)(k:Li_)(cs:Lf_):Halt->St->Prop
 | .panic v,s=>J.ok Q (G ((fr b T ds (.inRegion ops (i::rest)::k)).raise [{v,recovered:=false}]) cs) s
 | _,_=>False
theorem Ow{s:St}{w w':World}{fn:FuncId}{es:Array Event}(h:∀e∈es,Ev s w w' e):∀e∈seen P fn es,Ev s w w' e:=λe he=>h e (mem_seen he)
theorem Judge.oper{T:Av_}{ops:Ao_}{i:Nat}{rest:List Nat}{o:Oper}(ab:ops[i]? =some o)(hw:Region.wanted o (yielded ops T)=true)(aj:b.kind≠ .early)
  (hd:b.roundOf=none∨∀c,o.op≠ .defer c)
  (h:lp P (execOp (By T) o) s (upon J Q b T ds ops i rest k cs o.dst) (KW J Q b T ds ops i rest k cs)):
  J.ok Q (G (fr b T ds (.inRegion ops (i::rest)::k)) cs) s:=by
 have U:((fr b T ds (.inRegion ops (i::rest)::k)).kind==CallKind.early)=false:=by simpa [fr] using aj
 have ah:∀w,stepG P J.main (G (fr b T ds (.inRegion ops (i::rest)::k)) cs) w=stepG.apply P true (fr b T ds (.inRegion ops (i::rest)::k)) cs none (execOp (By T) o) w:=by
  intro w;rw [stepG_op ab hw];split
  ·rename_i l c ai e2;rcases hd with hd | hd
   ·rw [hd] at ai;cases ai
   ·exact absurd e2 (hd c)
  ·rfl
 refine J.step ⟨rfl,λw f=>?_,λe=>?_⟩
 rotate_left
 ·subst e;simp only [ah];have ac:=λv=>Gc (b:=b) (ds:=ds) (k:=k) T ops i rest v o ab;obtain⟨es,he,V,h⟩:=QZ _ h;have aa:seen P b.fn es= #[]:=PU V;rcases h with⟨ae,K,O⟩ | ⟨x,K,O⟩
  ·cases ae with
   | value v=>exact⟨_,λw=>by simp [stepG.apply,O,U,GStep.after,G,ac,FO,he,aa],K⟩
   | skip=>exact⟨_,λw=>by simp [stepG.apply,O,U,GStep.after,G,ac,FO,he,aa],K⟩
   | enter g args=>exact⟨_,λw=>by simp [stepG.apply,O,U,GStep.after,G,FO,HQ,he,aa],K⟩
   | round l g tm as ak=>exact⟨_,λw=>by simp [stepG.apply,O,U,GStep.after,G,FO,HQ,he,aa],K⟩
   | defer d=>
    have ag:=Gc (b:=b) (ds:=d::ds) (k:=k) T ops i rest undef o ab;exact⟨_,λw=>by rw [← ag];simp [stepG.apply,O,U,GStep.after,G,FO,HQ,he,aa];rfl,K⟩
   | _=>exact K.elim
  ·cases x with
   | panic v=>exact⟨_,λw=>by simp [stepG.apply,O,U,GStep.after,G,FO,HQ,he,aa],K⟩
   | _=>exact K.elim
 obtain⟨s',Y,Z,al,K⟩:=Mo _ h f;rw [ah];have V:=Ow (P:=P) (fn:=b.fn) al;have ac:=λv=>Gc (b:=b) (ds:=ds) (k:=k) T ops i rest v o ab;cases O:(execOp (By T) o).run P w with
 | ok ae w'=>
  rw [O] at Y Z K V;simp only [Kc] at Y Z V;cases ae with
  | value v=>exact⟨_,s',w',seen P b.fn ((execOp (By T) o).events P w #[])++ #[],by simp [stepG.apply,O,U,GStep.after,G,ac,FO],K,Y,Z,by simpa using V⟩
  | skip=>exact⟨_,s',w',seen P b.fn ((execOp (By T) o).events P w #[])++ #[],by simp [stepG.apply,O,U,GStep.after,G,ac,FO],K,Y,Z,by simpa using V⟩
  | enter g args=>exact⟨_,s',w',seen P b.fn ((execOp (By T) o).events P w #[])++ #[],by simp [stepG.apply,O,U,GStep.after,G,FO,HQ],K,Y,Z,by simpa using V⟩
  | round l g tm as ak=>exact⟨_,s',w',seen P b.fn ((execOp (By T) o).events P w #[])++ #[],by simp [stepG.apply,O,U,GStep.after,G,FO,HQ],K,Y,Z,by simpa using V⟩
  | defer d=>
   have ag:=Gc (b:=b) (ds:=d::ds) (k:=k) T ops i rest undef o ab;exact⟨_,s',w',seen P b.fn ((execOp (By T) o).events P w #[])++ #[],by
    rw [← ag];simp [stepG.apply,O,U,GStep.after,G,FO,HQ];rfl,K,Y,Z,by simpa using V⟩
  | _=>exact K.elim
 | halt x w'=>
  rw [O] at Y Z K V;simp only [Kc] at Y Z V;cases x with
  | panic v=>exact⟨_,s',w',seen P b.fn ((execOp (By T) o).events P w #[])++ #[],by simp [stepG.apply,O,U,GStep.after,G,FO,HQ],K,Y,Z,by simpa using V⟩
  | _=>exact K.elim
theorem Judge.unwanted{T:Av_}{ops:Ao_}{i:Nat}{rest:List Nat}{o:Oper}(K:ops[i]? =some o)(hw:Region.wanted o (yielded ops T)=false)
  (h:J.ok Q (G (fr b (CM T o.dst undef) ds (.inRegion ops rest::k)) cs) s):J.ok Q (G (fr b T ds (.inRegion ops (i::rest)::k)) cs) s:=by
 refine Judge.Db rfl (λw=>?_) h;have O:=Gc (b:=b) (ds:=ds) (k:=k) T ops i rest undef o K;rw [← O];simp [G,stepG,stepG.exec,fr,K,hw]
end
end Pal
namespace Pal
open Go Go.Conc
def Yl(P:Program)(o:Oper)(ρ:Operand->Value)(s:St)(v:Value):Prop:=lp P (execOp ρ o) s (λK s'=>K= .value v/\s'=s) (λ_ _=>False)
def EP(L:Env)(ρ:Operand->Value):Prop:=∀x v,ev L x=some v->ρ x=v
def AT(L:Env)(ops:Ao_)(o:Oper):Option Bool:=
 match o.guard with
 | none=>some true
 | some (j,K)=>match(ops[j]?).bind (·.dst) with
  | some d=>match look L d with
   | some (.bool b)=>some (b==K)
   | some (.tuple _)=>some false
   | _=>none
  | none=>none
section
variable {P:Program}{J:Judge P}{Q:Gs_}{b:Frame}{n:Nat}{L L':Env}{ds:Ld_}{k:Li_}{cs:Lf_}{s s':St}
theorem Has.FW{T:Av_}(h:Has n L T):EP L (By T):=λ_ _ e=>h.ev e
theorem getD_some{T:Av_}{d:Nat}{c:Bool}(h:T.getD d undef= .bool c):T[d]? =some (.bool c):=by
 rw [Array.getD_eq_getD_getElem?] at h;cases K:T[d]? with
 | none=>rw [K] at h;simp [undef] at h
 | some v=>rw [K] at h;simp at h;rw [h]
theorem Cb{T:Av_}{ops:Ao_}{o:Oper}{c:Bool}(h:Has n L T)(hw:AT L ops o=some c):Region.wanted o (yielded ops T)=c:=by
 unfold AT at hw;unfold Region.wanted;cases K:o.guard with
 | none=>rw [K] at hw;simpa using hw
 | some p=>
  obtain⟨j,V⟩:=p;rw [K] at hw;simp only at hw ⊢;cases hd:(ops[j]?).bind (·.dst) with
  | none=>rw [hd] at hw;simp at hw
  | some d=>
   rw [hd] at hw;simp only at hw;cases O:look L d with
   | none=>rw [O] at hw;simp at hw
   | some v=>
    rw [O] at hw;cases v with
    | bool x=>
     simp only [Option.some.injEq] at hw;have:=getD_some (h.at_ d _ O);simp only [yielded,hd,Option.bind_some,this];simp [← hw]
    | tuple c=>
     simp only [Option.some.injEq] at hw;have K:=h.at_ d _ O;simp only [yielded,hd,Option.bind_some];cases U:T[d]? with
     | none=>simp [← hw]
     | some u=>
      have:u= .tuple c:=by rw [Array.getD_eq_getD_getElem?,U] at K;exact K
      subst this;simp [← hw]
    | _=>simp at hw
def DK:Op->Bool | .defer _=>true | _=>false
def BK(b:Frame)(n:Nat)(o:Oper):Bool:=(b.kind != .early)&&(Bh n o.dst&& !DK o.op)
theorem Yl.out{P:Program}{o:Oper}{ρ:Operand->Value}{s:St}{v:Value}(h:Yl P o ρ s v):Pal.lp P (execOp ρ o) s (λK s'=>K= .value v/\s'=s) (λ_ _=>False):=by unfold Yl at h;exact h
theorem Ao{ops:Ao_}{i:Nat}{rest:List Nat}{o:Oper}{v:Value}(U:ops[i]? =some o)(hw:AT L ops o=some true)(K:BK b n o=true)
  (h:∀ρ,EP L ρ->Yl P o ρ s v) (V:JL J Q b n (Ax L o.dst v) ds (.inRegion ops rest::k) cs s):
  JL J Q b n L ds (.inRegion ops (i::rest)::k) cs s:=λT O=>by
 simp only [BK,Bool.and_eq_true] at K
 obtain⟨K,Y,hd⟩:=K
 refine Judge.oper U (Cb O hw) (by simpa using K) (.inr λc Z=>by rw [Z] at hd;simp [DK] at hd) (Ej _ (h _ O.FW).out ?_ ?_)
 ·rintro ab s' ⟨rfl,rfl⟩
  exact V _ (O.put Y v)
 ·intro _ _ aa;exact aa.elim
theorem HX{ops:Ao_}{i:Nat}{rest:List Nat}{o:Oper}(O:ops[i]? =some o)(hw:AT L ops o=some false)(U:Bh n o.dst=true)
  (V:JL J Q b n (Ax L o.dst undef) ds (.inRegion ops rest::k) cs s):
  JL J Q b n L ds (.inRegion ops (i::rest)::k) cs s:=λ_ K=>
 Judge.unwanted O (Cb K hw) (V _ (K.put U undef))
theorem JL.op{ops:Ao_}{i:Nat}{rest:List Nat}{o:Oper}(Z:ops[i]? =some o)(hw:AT L ops o=some true)(K:BK b n o=true)
  (h:∀ρ,EP L ρ->lp P (execOp ρ o) s (λU s'=>match U with
   | .value v=>JL J Q b n (Ax L o.dst v) ds (.inRegion ops rest::k) cs s'
   | .skip=>JL J Q b n (Ax L o.dst undef) ds (.inRegion ops rest::k) cs s'
   | _=>False) (λ_ _=>False)):
  JL J Q b n L ds (.inRegion ops (i::rest)::k) cs s:=λT O=>by
 simp only [BK,Bool.and_eq_true] at K
 obtain⟨K,Y,hd⟩:=K
 refine Judge.oper Z (Cb O hw) (by simpa using K) (.inr λc aa=>by rw [aa] at hd;simp [DK] at hd) (Ej _ (h _ O.FW) ?_ ?_)
 ·intro U s' V
  cases U with
  | value v=>exact V _ (O.put Y v)
  | skip=>exact V _ (O.put Y undef)
  | _=>exact V.elim
 ·intro _ _ ab;exact ab.elim
end
section
variable {P:Program}{ρ:Operand->Value}{s:St}{x y z:Operand}{d:Option Tmp}{t u ty:TypeId}{p:String}{af:Ae_}{g:On_}{v:Value}{kd kd':IntKind}{m m':Int}
theorem Yl.move(K:ρ x=v):Yl P ⟨d,.move x,ty,p,af,g⟩ ρ s v:=by simp [Yl,execOp,lp,pure,K]
theorem Yl.assign(K:ρ x=v):Yl P ⟨d,.assign x,ty,p,af,g⟩ ρ s v:=by simp [Yl,execOp,lp,pure,K]
theorem Lf(K:ρ z= .bool true)(O:ρ x=v):Yl P ⟨d,.pick z x y,ty,p,af,g⟩ ρ s v:=by simp [Yl,execOp,lp,pure,bind,Sem.bind,asBool,K,O]
theorem UO(K:ρ z= .bool false)(O:ρ y=v):Yl P ⟨d,.pick z x y,ty,p,af,g⟩ ρ s v:=by simp [Yl,execOp,lp,pure,bind,Sem.bind,asBool,K,O]
theorem Yl.lss(K:ρ x= .int kd m)(O:ρ y= .int kd m'):Yl P ⟨d,.binOp .lss t x y u,ty,p,af,g⟩ ρ s (.bool (decide (m<m'))):=by
 simp [Yl,execOp,lp,pure,bind,Sem.bind,K,O,eqGuard,Go.binOp,Op.intCmp]
theorem Yl.leq(K:ρ x= .int kd m)(O:ρ y= .int kd m'):Yl P ⟨d,.binOp .leq t x y u,ty,p,af,g⟩ ρ s (.bool (decide (m<=m'))):=by
 simp [Yl,execOp,lp,pure,bind,Sem.bind,K,O,eqGuard,Go.binOp,Op.intCmp]
theorem Yl.gtr(K:ρ x= .int kd m)(O:ρ y= .int kd m'):Yl P ⟨d,.binOp .gtr t x y u,ty,p,af,g⟩ ρ s (.bool (decide (m'<m))):=by
 simp [Yl,execOp,lp,pure,bind,Sem.bind,K,O,eqGuard,Go.binOp,Op.intCmp]
theorem Yl.geq(K:ρ x= .int kd m)(O:ρ y= .int kd m'):Yl P ⟨d,.binOp .geq t x y u,ty,p,af,g⟩ ρ s (.bool (decide (m'<=m))):=by
 simp [Yl,execOp,lp,pure,bind,Sem.bind,K,O,eqGuard,Go.binOp,Op.intCmp]
theorem Yl.eql(K:ρ x= .int kd m)(O:ρ y= .int kd m'):Yl P ⟨d,.binOp .eql t x y u,ty,p,af,g⟩ ρ s (.bool (decide (m=m'))):=by
 simp [Yl,execOp,lp,pure,bind,Sem.bind,K,O,eqGuard,Go.binOp,Op.intCmp];rfl
theorem Yl.neq(K:ρ x= .int kd m)(O:ρ y= .int kd m'):Yl P ⟨d,.binOp .neq t x y u,ty,p,af,g⟩ ρ s (.bool (!decide (m=m'))):=by
 simp [Yl,execOp,lp,pure,bind,Sem.bind,K,O,eqGuard,Go.binOp,Op.intCmp];rfl
theorem Yl.add(K:ρ x= .int kd m)(O:ρ y= .int kd m'):Yl P ⟨d,.binOp .add t x y u,ty,p,af,g⟩ ρ s (.int kd (kd.wrap (m+m'))):=by
 simp [Yl,execOp,lp,pure,bind,Sem.bind,K,O,eqGuard,Go.binOp,Op.intArith]
theorem Yl.sub(K:ρ x= .int kd m)(O:ρ y= .int kd m'):Yl P ⟨d,.binOp .sub t x y u,ty,p,af,g⟩ ρ s (.int kd (kd.wrap (m - m'))):=by
 simp [Yl,execOp,lp,pure,bind,Sem.bind,K,O,eqGuard,Go.binOp,Op.intArith]
theorem Yl.mul(K:ρ x= .int kd m)(O:ρ y= .int kd m'):Yl P ⟨d,.binOp .mul t x y u,ty,p,af,g⟩ ρ s (.int kd (kd.wrap (m*m'))):=by
 simp [Yl,execOp,lp,pure,bind,Sem.bind,K,O,eqGuard,Go.binOp,Op.intArith]
theorem I8{a:Int}(h: -9223372036854775808<=a/\a<=9223372036854775807):IntKind.i64.wrap a=a:=by
 simp only [IntKind.wrap,IntKind.bits,IntKind.signed];simp;split <;> omega
theorem WK(K:ρ x= .int .i64 m)(O:ρ y= .int .i64 m')(hb: -9223372036854775808<=m+m'/\m+m'<=9223372036854775807):Yl P ⟨d,.binOp .add t x y u,ty,p,af,g⟩ ρ s (.int .i64 (m+m')):=by
 have:=Yl.add (P:=P) (s:=s) (d:=d) (t:=t) (u:=u) (ty:=ty) (p:=p) (af:=af) (g:=g) K O;rwa [I8 hb] at this
theorem WJ(K:ρ x= .int .i64 m)(O:ρ y= .int .i64 m')(hb: -9223372036854775808<=m - m'/\m - m'<=9223372036854775807):Yl P ⟨d,.binOp .sub t x y u,ty,p,af,g⟩ ρ s (.int .i64 (m - m')):=by
 have:=Yl.sub (P:=P) (s:=s) (d:=d) (t:=t) (u:=u) (ty:=ty) (p:=p) (af:=af) (g:=g) K O;rwa [I8 hb] at this
theorem V6(K:ρ x= .int .i64 m)(O:ρ y= .int .i64 m')(hb: -9223372036854775808<=m*m'/\m*m'<=9223372036854775807):Yl P ⟨d,.binOp .mul t x y u,ty,p,af,g⟩ ρ s (.int .i64 (m*m')):=by
 have:=Yl.mul (P:=P) (s:=s) (d:=d) (t:=t) (u:=u) (ty:=ty) (p:=p) (af:=af) (g:=g) K O;rwa [I8 hb] at this
theorem Yl.rem(K:ρ x= .int kd m)(O:ρ y= .int kd m')(U:m'≠0):Yl P ⟨d,.binOp .rem t x y u,ty,p,af,g⟩ ρ s (.int kd (m.tmod m')):=by
 simp [Yl,execOp,lp,pure,bind,Sem.bind,K,O,eqGuard,Go.binOp,Op.intDiv,U]
theorem Yl.quo(K:ρ x= .int kd m)(O:ρ y= .int kd m')(U:m'≠0):Yl P ⟨d,.binOp .quo t x y u,ty,p,af,g⟩ ρ s (.int kd (kd.wrap (m.tdiv m'))):=by
 simp [Yl,execOp,lp,pure,bind,Sem.bind,K,O,eqGuard,Go.binOp,Op.intDiv,U]
theorem Yl.and(K:ρ x= .int kd m)(O:ρ y= .int kd m'):Yl P ⟨d,.binOp .and t x y u,ty,p,af,g⟩ ρ s (.int kd (kd.wrap (BitVec.ofInt kd.bits m&&& BitVec.ofInt kd.bits m').toNat)):=by
 simp [Yl,execOp,lp,pure,bind,Sem.bind,K,O,eqGuard,Go.binOp,Op.intBits]
theorem Yl.or(K:ρ x= .int kd m)(O:ρ y= .int kd m'):Yl P ⟨d,.binOp .or t x y u,ty,p,af,g⟩ ρ s (.int kd (kd.wrap (BitVec.ofInt kd.bits m ||| BitVec.ofInt kd.bits m').toNat)):=by
 simp [Yl,execOp,lp,pure,bind,Sem.bind,K,O,eqGuard,Go.binOp,Op.intBits]
theorem Yl.xor(K:ρ x= .int kd m)(O:ρ y= .int kd m'):Yl P ⟨d,.binOp .xor t x y u,ty,p,af,g⟩ ρ s (.int kd (kd.wrap (BitVec.ofInt kd.bits m ^^^ BitVec.ofInt kd.bits m').toNat)):=by
 simp [Yl,execOp,lp,pure,bind,Sem.bind,K,O,eqGuard,Go.binOp,Op.intBits]
theorem Yl.shl(K:ρ x= .int kd m)(O:ρ y= .int kd' m')(U:0<=m'):Yl P ⟨d,.binOp .shl t x y u,ty,p,af,g⟩ ρ s (.int kd (kd.wrap (m*2 ^ (min m'.toNat kd.bits)))):=by
 have:¬m'<0:=by omega
 simp [Yl,execOp,lp,pure,bind,Sem.bind,K,O,eqGuard,Go.binOp,Op.shift,this]
theorem Yl.shr(K:ρ x= .int kd m)(O:ρ y= .int kd' m')(U:0<=m'):Yl P ⟨d,.binOp .shr t x y u,ty,p,af,g⟩ ρ s (.int kd (m.fdiv (2 ^ (min m'.toNat kd.bits)))):=by
 have:¬m'<0:=by omega
 simp [Yl,execOp,lp,pure,bind,Sem.bind,K,O,eqGuard,Go.binOp,Op.shift,this]
theorem Yl.not{c:Bool}(K:ρ x= .bool c):Yl P ⟨d,.unOp .not t x,ty,p,af,g⟩ ρ s (.bool (!c)):=by
 simp [Yl,execOp,lp,pure,bind,Sem.bind,K,Op.unary]
theorem WA(K:ρ x= .int .i64 m)(hb: -9223372036854775808<= -m/\ -m<=9223372036854775807):Yl P ⟨d,.unOp .neg t x,ty,p,af,g⟩ ρ s (.int .i64 (-m)):=by
 simp [Yl,execOp,lp,pure,bind,Sem.bind,K,Op.unary,Op.intArith,I8 hb]
theorem EY(K:P.underlying t=some (.int kd'))(hu:P.underlying u=some (.int kd))(O:ρ x= .int kd' m):Yl P ⟨d,.convert t u x,ty,p,af,g⟩ ρ s (.int kd (kd.wrap m)):=by
 simp [Yl,execOp,lp,pure,bind,Sem.bind,O,Go.convert,underlying,program,K,hu,Conv.intToInt]
theorem Yl.extract{vs:Av_}{i:Nat}(K:ρ x= .tuple vs)(hi:vs[i]? =some v):Yl P ⟨d,.extract x i,ty,p,af,g⟩ ρ s v:=by
 simp [Yl,execOp,lp,pure,bind,Sem.bind,K,Instr.extract,hi]
theorem Yl.nilCheck{a:Addr}(K:ρ x= .pointer (some a)):Yl P ⟨d,.nilCheck x,ty,p,af,g⟩ ρ s (.pointer (some a)):=by
 simp [Yl,execOp,lp,pure,K]
theorem Yl.len{a:Option Addr}{e:TypeId}{l c:Nat}{ats:Array TypeId}(K:ats[0]? =some t)(O:P.underlying t=some (.slice e))(U:ρ x= .slice a l c):
  Yl P ⟨d,.call ⟨.builtin .len,#[x],ats⟩,ty,p,af,g⟩ ρ s (.int .i64 l):=by
 simp [Yl,execOp,lp,pure,bind,Sem.bind,U,resolve,invoke,builtin,Builtin.len_,K,underlying,program,O,goInt]
theorem N4{dsc:TypeDesc}(K:P.underlying t=some dsc)(O:∀ms,dsc≠ .interface ms)(U:ρ x=v):Yl P ⟨d,.makeInterface t x,ty,p,af,g⟩ ρ s (.iface t v):=by
 have:lp P (Instr.makeInterface t v) s (λr s'=>r= .iface t v/\s'=s) (λ_ _=>False):=by
  unfold Instr.makeInterface;simp only [lp,bind,Sem.bind,underlying,program,K];cases dsc <;> first | exact⟨rfl,rfl⟩ | exact absurd rfl (O _)
 simp only [Yl,execOp,U];exact Av _ _ (Ej _ this (λr s' ⟨V,Y⟩=>⟨by rw [V],Y⟩) (λ_ _ h=>h))
theorem Kp{fn:Fn}{a c:Array Operand}{va K:Av_}(O:a.map ρ=va)(U:c.map ρ=K):Yl P ⟨d,.makeFunc fn a c,ty,p,af,g⟩ ρ s (.func fn va K):=by
 simp [Yl,execOp,lp,pure,bind,Sem.bind,Instr.makeFunc,O,U]
end
attribute [irreducible] Yl
end Pal
namespace Pal
open Go Go.Conc
def Le(E E':LH):Prop:=∀b o,E b=some o->E' b=some o
theorem Le.refl(E:LH):Le E E:=λ_ _ h=>h
theorem Le.trans{E E' K:LH}(h:Le E E')(k:Le E' K):Le E K:=λb o x=>k b o (h b o x)
theorem Az{E:LH}:Le E E:=Le.refl E
theorem Le.Ac{a b c:LH}(h:Le a b)(k:Le b c):Le a c:=h.trans k
def Bi:List (Nat×Obj)->LH->LH
 | [],H=>H
 | (b,o)::B,H=>λx=>if x=b then some o else Bi B H x
def mk(E H:LH)(B:List (Nat×Obj)):St:=⟨E,Bi B H,false⟩
def Nd(E H:LH):List (Nat×Obj)->Prop
 | []=>True
 | (b,_)::B=>E b=none/\H b=none/\(∀p∈B,p.1≠b)/\Nd E H B
theorem P9{H:LH}{b:Nat}:∀{B:List (Nat×Obj)},H b=none->(∀p∈B,p.1≠b)->Bi B H b=none
 | [],h,_=>h
 | (c,o)::B,h,hb=>by
  have K:b≠c:=λe=>hb (c,o) (by simp) e.symm
  simp only [Bi,if_neg K]
  exact P9 h λp O=>hb p (List.mem_cons_of_mem _ O)
theorem HI{H:LH}{b:Nat}:∀{B:List (Nat×Obj)},Bi B H b=none->H b=none/\∀p∈B,p.1≠b
 | [],h=>⟨h,by simp⟩
 | (c,o)::B,h=>by
  simp only [Bi] at h
  split at h
  ·cases h
  ·rename_i O;obtain⟨U,V⟩:=HI h;refine⟨U,λp K=>?_⟩;rcases List.mem_cons.1 K with rfl | K
   ·exact λe=>O e.symm
   ·exact V p K
theorem PX{H:LH}{x:Nat}{o:Obj}{r:Nat}:∀{B:List (Nat×Obj)},(∀p∈B,p.1≠r)->Bi (B++ [(r,o)]) H x=if x=r then some o else Bi B H x
 | [],_=>rfl
 | (c,u)::B,h=>by
  simp only [List.cons_append,Bi]
  by_cases e:x=c
  ·subst e
   have:x≠r:=λe=>h (x,u) (by simp) e;simp [this]
  ·simp only [if_neg e];exact PX λp K=>h p (List.mem_cons_of_mem _ K)
theorem Nd.append{E H:LH}{r:Nat}{o:Obj}(O:E r=none)(U:H r=none):∀{B:List (Nat×Obj)},(∀p∈B,p.1≠r)->Nd E H B->Nd E H (B++ [(r,o)])
 | [],_,_=>⟨O,U,by simp,trivial⟩
 | (c,u)::B,h,V=>by
  obtain⟨Y,Z,aa,ab⟩:=V
  refine⟨Y,Z,λp K=>?_,Nd.append O U (λp K=>h p (List.mem_cons_of_mem _ K)) ab⟩
  rcases List.mem_append.1 K with K | K
  ·exact aa p K
  ·simp at K;subst K;exact λe=>h (c,u) (by simp) e.symm
theorem IM{E H:LH}{b:Nat}{o:Obj}:∀{B:List (Nat×Obj)} {i:Nat},Nd E H B->B[i]? =some (b,o)->Bi B H b=some o
 | [],_,_,h=>by simp at h
 | (c,u)::B,0,_,h=>by simp at h;obtain⟨rfl,rfl⟩:=h;simp [Bi]
 | (c,u)::B,i+1,K,h=>by
  simp at h
  have O:b≠c:=K.2.2.1 (b,o) (List.mem_of_getElem? h)
  simp only [Bi,if_neg O]
  exact IM K.2.2.2 h
theorem QA{E H:LH}{b:Nat}{o o':Obj}:∀{B:List (Nat×Obj)} {i:Nat},Nd E H B->B[i]? =some (b,o)->Bi (B.set i (b,o')) H=λx=>if x=b then some o' else Bi B H x
 | [],_,_,h=>by simp at h
 | (c,u)::B,0,_,h=>by
  simp at h;obtain⟨rfl,rfl⟩:=h
  funext x
  simp only [List.set_cons_zero,Bi]
  split <;> rfl
 | (c,u)::B,i+1,K,h=>by
  simp at h
  have O:b≠c:=K.2.2.1 (b,o) (List.mem_of_getElem? h)
  funext x
  simp only [List.set_cons_succ,Bi]
  rw [QA K.2.2.2 h]
  by_cases e:x=c
  ·subst e;simp [Ne.symm O]
  ·simp [e]
theorem Nd.set{E H:LH}{b:Nat}{o o':Obj}:∀{B:List (Nat×Obj)} {i:Nat},Nd E H B->B[i]? =some (b,o)->Nd E H (B.set i (b,o'))
 | [],_,_,h=>by simp at h
 | (c,u)::B,0,K,h=>by simp at h;obtain⟨rfl,rfl⟩:=h;exact K
 | (c,u)::B,i+1,K,h=>by
  simp at h
  refine⟨K.1,K.2.1,λp O=>?_,K.2.2.2.set h⟩
  have hm:=List.mem_or_eq_of_mem_set O
  rcases hm with hm | rfl
  ·exact K.2.2.1 p hm
  ·exact K.2.2.1 (b,o) (List.mem_of_getElem? h)
theorem Nd.R3{E H:LH}{b:Nat}{o:Obj}:∀{B:List (Nat×Obj)} {i:Nat},Nd E H B->B[i]? =some (b,o)->E b=none
 | [],_,_,h=>by simp at h
 | (c,u)::B,0,K,h=>by simp at h;obtain⟨rfl,rfl⟩:=h;exact K.1
 | (c,u)::B,i+1,K,h=>by simp at h;exact Nd.R3 K.2.2.2 h
theorem N5{E H:LH}{B:List (Nat×Obj)}{i b:Nat}{o:Obj}(K:Nd E H B)(h:B[i]? =some (b,o)):(mk E H B).get b=some o:=by
 unfold St.get mk;simp only [K.R3 h,IM K h]
theorem TU{E H:LH}{B:List (Nat×Obj)}{b:Nat}{o:Obj}(h:E b=some o):(mk E H B).get b=some o:=by
 unfold St.get mk;simp only [h]
theorem QF{E H:LH}{B:List (Nat×Obj)}{i b off:Nat}{c:Av_}{e:TypeId}{f:Nat×Nat}{v:Value}(K:Nd E H B)(h:B[i]? =some (b,.cells c e f))(O:c[off]? =some v):(mk E H B).cell? ⟨b,off,none⟩=some v:=by
 unfold St.cell?;rw [N5 K h];exact O
theorem UG{E H:LH}{B:List (Nat×Obj)}{b off:Nat}{c:Av_}{e:TypeId}{f:Nat×Nat}{v:Value}(h:E b=some (.cells c e f))(K:c[off]? =some v):(mk E H B).cell? ⟨b,off,none⟩=some v:=by
 unfold St.cell?;rw [TU h];exact K
section
variable {P:Program}{J:Judge P}{Q:Gs_}{b:Frame}{n:Nat}{L L':Env}{ds:Ld_}{k:Li_}{cs:Lf_}{E H:LH}{B B':List (Nat×Obj)}
theorem JZ{r:Nat}(O:(mk E H B).E r=none)(U:(mk E H B).H r=none)(o:Obj)(V:Nd E H B):Nd E H (B++ [(r,o)])/\(mk E H B).upd r o=mk E H (B++ [(r,o)]):=by
 obtain⟨Y,K⟩:=HI U;refine⟨Nd.append O Y K V,?_⟩;unfold St.upd mk;congr 1;funext x;exact(PX K).symm
theorem X0{i bk:Nat}{o o':Obj}(K:Nd E H B)(h:B[i]? =some (bk,o)):(mk E H B).upd bk o'=mk E H (B.set i (bk,o')):=by
 unfold St.upd mk;congr 1;exact(QA K h).symm
theorem JL.drop(B':List (Nat×Obj))(h:∀p∈B',∃i:Nat,B[i]? =some p)(U:Nd E H B)(k':JL J Q b n L ds k cs (mk E H B')):JL J Q b n L ds k cs (mk E H B):=
 JL.ghost (s':=mk E H B') ⟨λ_ _ h=>h,λx o O=>by
  show Bi B H x=some o
  have key:∀{B':List (Nat×Obj)},(∀p∈B',∃i:Nat,B[i]? =some p)->Bi B' H x=some o->Bi B H x=some o:=by
   intro B'
   induction B' with
   | nil=>
    intro _ O
    have ab:∀p∈B,p.1≠x:=by
     intro p K e
     have:∀{B:List (Nat×Obj)},Nd E H B->p∈B->H p.1=none:=by
      intro B U K
      induction B with
      | nil=>simp at K
      | cons q B V=>
       rcases List.mem_cons.1 K with rfl | K
       ·exact U.2.1
       ·exact V U.2.2.2 K
     have Z:=this U K
     rw [e] at Z
     have aa:H x=some o:=O
     rw [Z] at aa;cases aa
    have:∀{B:List (Nat×Obj)},(∀p∈B,p.1≠x)->Bi B H x=H x:=by
     intro B Y
     induction B with
     | nil=>rfl
     | cons q B V=>
      have ac:x≠q.1:=λe=>Y q (by simp) e.symm
      obtain⟨c,u⟩:=q
      simp only [Bi,if_neg ac]
      exact V λp K=>Y p (List.mem_cons_of_mem _ K)
    rw [this ab];exact O
   | cons q B' V=>
    intro Y O
    obtain⟨c,u⟩:=q
    simp only [Bi] at O
    split at O
    ·rename_i e;subst e;cases O
     obtain⟨i,hi⟩:=Y (x,o) (by simp)
     exact IM U hi
    ·exact V (λp K=>Y p (List.mem_cons_of_mem _ K)) O
  exact key h O,λ_ _ h=> .inl h,rfl⟩ k'
theorem La{x:Nat}:∀{B:List (Nat×Obj)} {i:Nat} {bk:Nat} {o u:Obj},Nd E H B->B[i]? =some (bk,o)->Bi (B.eraseIdx i) H x=some u->x≠bk/\Bi B H x=some u
 | [],_,_,_,_,_,h,_=>by simp at h
 | (c,v)::B,0,bk,o,u,O,h,K=>by
  simp at h;obtain⟨rfl,rfl⟩:=h
  simp only [List.eraseIdx_cons_zero] at K
  have U:x≠c:=by
   intro e;subst e;rw [P9 O.2.1 O.2.2.1] at K;cases K
  exact⟨U,by simp only [Bi,if_neg U];exact K⟩
 | (c,v)::B,i+1,bk,o,u,O,h,K=>by
  simp at h;simp only [List.eraseIdx_cons_succ,Bi] at K ⊢;split at K
  ·rename_i e;subst e;rw [if_pos rfl];exact⟨λe=>O.2.2.1 (bk,o) (List.mem_of_getElem? h) e.symm,K⟩
  ·rename_i e;rw [if_neg e];exact La O.2.2.2 h K
theorem JL.freeze(i:Nat){bk:Nat}{o:Obj}(K:Nd E H B)(h:B[i]? =some (bk,o))
  (k':∀E',Le E E'->E' bk=some o->Nd E' H (B.eraseIdx i)->JL J Q b n L ds k cs (mk E' H (B.eraseIdx i))):JL J Q b n L ds k cs (mk E H B):=by
 have ae:=List.mem_of_getElem? h;have ag:E bk=none/\H bk=none:=by
  have:∀{B:List (Nat×Obj)},Nd E H B->(bk,o)∈B->E bk=none/\H bk=none:=by
   intro B K O
   induction B with
   | nil=>simp at O
   | cons q B V=>
    rcases List.mem_cons.1 O with rfl | O
    ·exact⟨K.1,K.2.1⟩
    ·exact V K.2.2.2 O
  exact this K ae
 let E':LH:=λx=>if x=bk then some o else E x
 have aa:E' bk=some o:=by simp [E']
 have hle:Le E E':=λx u U=>by
  have:x≠bk:=λe=>by subst e;rw [ag.1] at U;cases U
  simp [E',this,U]
 have ah:Nd E' H (B.eraseIdx i):=by
  have:∀{B:List (Nat×Obj)} {i:Nat},Nd E H B->B[i]? =some (bk,o)->Nd E' H (B.eraseIdx i)/\∀p∈B.eraseIdx i,p.1≠bk:=by
   intro B
   induction B with
   | nil=>intro i _ h;simp at h
   | cons q B V=>
    obtain⟨c,v⟩:=q;intro i K h;have up:∀{B:List (Nat×Obj)},Nd E H B->(∀p∈B,p.1≠bk)->Nd E' H B:=by
     intro B K ab
     induction B with
     | nil=>trivial
     | cons q B ai=>exact⟨by simpa [E',ab q (by simp)] using K.1,K.2.1,K.2.2.1,ai K.2.2.2 λp O=>ab p (List.mem_cons_of_mem _ O)⟩
    cases i with
    | zero=>
     simp at h;obtain⟨rfl,rfl⟩:=h;exact⟨up K.2.2.2 K.2.2.1,K.2.2.1⟩
    | succ i=>
     simp at h;obtain⟨Y,Z⟩:=V K.2.2.2 h;have ac:c≠bk:=λe=>K.2.2.1 (bk,o) (List.mem_of_getElem? h) e.symm;refine⟨⟨by simpa [E',ac] using K.1,K.2.1,λp O=>K.2.2.1 p (List.mem_of_mem_eraseIdx O),Y⟩,λp O=>?_⟩;rcases List.mem_cons.1 O with rfl | O
     ·exact ac
     ·exact Z p O
  exact(this K h).1
 refine JL.ghost (s':=mk E' H (B.eraseIdx i)) ⟨λx u U=>hle x u U,λx u U=>(La K h U).2,λx u U=>?_,rfl⟩ (k' E' hle aa ah);by_cases e:x=bk
 ·subst e;right;have:u=o:=by have:E' x=some u:=U;rw [aa] at this;exact(Option.some.inj this).symm
  subst this;refine⟨IM K h,?_⟩;cases aj:(mk E' H (B.eraseIdx i)).H x with
  | none=>rfl
  | some y=>exact absurd rfl (La K h aj).1
 ·left;have Y:E' x=some u:=U;have Z:E' x=E x:=by simp [E',e]
  show E x=some u;rw [← Z];exact Y
def Fn(P:Program)(f:FuncId)(args:Av_)(s:St)(R:Value->St->Prop):Prop:=
 ∀(J:Judge P) (Q:Gs_) (c:Frame) (cs:Lf_),(∀v s',R v s'->J.ok Q (G (c.finish v) cs) s')->J.ok Q (G (Frame.enter P f args .normal) (c::cs)) s
def DI(P:Program)(f:FuncId):Bool:=match P.funcs[f]? with | some fn=> !(fn.name== "runtime.NumGoroutine")&&fn.body.isSome | none=>false
def evs(L:Env):List Operand->Option (Lv_)
 | []=>some []
 | x::xs=>match ev L x,evs L xs with | some v,some vs=>some (v::vs) | _,_=>none
theorem Gd{L:Env}{ρ:Operand->Value}(h:EP L ρ):∀{xs:List Operand} {vs:Lv_},evs L xs=some vs->xs.map ρ=vs
 | [],vs,e=>by simp [evs] at e;subst e;rfl
 | x::xs,vs,e=>by
  simp only [evs] at e
  split at e
  ·rename_i v ws K O
   cases e;rw [List.map_cons,h x v K,Gd h O]
  ·cases e
theorem IF{f:FuncId}{args:Av_}{s:St}{Q:Next->St->Prop}{X:Halt->St->Prop}(K:DI P f=true)(h:Q (.enter f args) s):lp P (callFunc f args) s Q X:=by
 unfold DI at K;unfold callFunc;simp only [bind,Sem.bind,program,lp];cases O:P.funcs[f]? with
 | none=>rw [O] at K;cases K
 | some fn=>
  rw [O] at K;simp only [Bool.and_eq_true,Bool.not_eq_true'] at K;have hb:fn.body.isNone=false:=by cases U:fn.body <;> simp_all
  simp only [K.1,hb,Bool.false_eq_true,if_false];exact h
def Bd(P:Program)(f:FuncId)(L:Env)(n:Nat)(s:St)(v:Value):Prop:=∃fn,P.funcs[f]? =some fn/\∀T,Has n L T->lp P (results fn T) s (λu s'=>u=v/\s'=s) (λ_ _=>False)
theorem Judge.leave{T:Av_}{todo:Li_}{c:Frame}{s:St}{v:Value}{fn:Func}(V:b.kind= .normal)(Y:P.funcs[b.fn]? =some fn)(U:lp P (results fn T) s (λu s'=>u=v/\s'=s) (λ_ _=>False))
  (h:J.ok Q (G (c.finish v) cs) s):J.ok Q (G (Em b T [] todo) (c::cs)) s:=by
 refine J.step ⟨rfl,λw f=>?_,λe=>?_⟩
 rotate_left
 ·subst e;obtain⟨es,he,ac,U⟩:=QZ _ U;have ae:seen P b.fn es= #[]:=PU ac;rcases U with⟨u,⟨rfl,_⟩,O⟩ | ⟨x,K,_⟩
  ·exact⟨_,λw=>by simp [G,stepG,unwind,Em,Y,O,doReturn,V,GStep.after,he,ae],h⟩
  ·exact K.elim
 obtain⟨s',Z,aa,ab,K⟩:=Mo _ U f;cases O:(results fn T).run P w with
 | halt x w'=>rw [O] at K;exact K.elim
 | ok u w'=>
  rw [O] at Z aa ab K;obtain⟨rfl,rfl⟩:=K;exact⟨_,s',w',seen P b.fn ((results fn T).events P w #[])++ #[],by simp [G,stepG,unwind,Em,Y,O,doReturn,V,GStep.after],h,Z,aa,by simp only [Array.append_empty];exact Ow ab⟩
theorem JL.ret{s:St}{c:Frame}{v:Value}(O:b.kind= .normal)(U:b.roundOf=none)(K:Bd P b.fn L n s v)(h:J.ok Q (G (c.finish v) cs) s):JL J Q b n L [] (.code .ret::k) (c::cs) s:=λT V=>by
 obtain⟨fn,Y,K⟩:=K
 refine Judge.Db (g':=G (Em b T [] (.code .ret::k)) (c::cs)) rfl (λw=>by simp [G,stepG,stepG.exec,fr,Em,U]) ?_
 exact Judge.leave O Y (K T V) h
theorem JL.fin{s:St}{c:Frame}{v:Value}(O:b.kind= .normal)(U:b.roundOf=none)(K:Bd P b.fn L n s v)(h:J.ok Q (G (c.finish v) cs) s):JL J Q b n L [] [] (c::cs) s:=λT V=>by
 obtain⟨fn,Y,K⟩:=K
 refine Judge.Db (g':=G (Em b T [] []) (c::cs)) rfl (λw=>by simp [G,stepG,stepG.exec,fr,Em,U]) ?_
 exact Judge.leave O Y (K T V) h
theorem Bd.one{f:FuncId}{fn:Func}{s:St}{t:Tmp}{v:Value}(K:P.funcs[f]? =some fn)(O:fn.results= #[.tmp t])(h:look L t=some v):Bd P f L n s v:=
 ⟨fn,K,λT U=>by
  have e:results fn T=Sem.pure v:=by
   have:=U.at_ t v h
   simp only [results,O,Array.mapM_eq_mapM_toList]
   show Sem.pure (T.getD t undef)=_
   rw [this]
  rw [e];exact⟨rfl,rfl⟩⟩
theorem Bd.none{f:FuncId}{fn:Func}{s:St}(K:P.funcs[f]? =some fn)(O:fn.results= #[]):Bd P f L n s (.tuple #[]):=
 ⟨fn,K,λT U=>by
  have e:results fn T=Sem.pure (.tuple #[]):=by
   simp only [results,O,Array.mapM_eq_mapM_toList]
   rfl
  rw [e];exact⟨rfl,rfl⟩⟩
def FY:Nat->Lv_->Env
 | _,[]=> []
 | i,v::vs=>(i,v)::FY (i+1) vs
theorem I6{i:Nat}{vs:Lv_}{t:Nat}{v:Value}(h:look (FY i vs) t=some v):i<=t/\vs[t - i]? =some v:=by
 induction vs generalizing i with
 | nil=>simp [FY,look] at h
 | cons u vs K=>
  simp only [FY,look] at h;split at h
  ·rename_i e;subst e;cases h;simp
  ·rename_i U;obtain⟨V,O⟩:=K h;refine⟨by omega,?_⟩;have:t - i=(t - (i+1))+1:=by omega
   rw [this];simpa using O
end
end Pal
namespace Pal
open Go Go.Conc
def Bm(P:Program)(t:TypeId):Option Nat:=(P.info? t).map (·.size)
def Dm(P:Program)(t:TypeId):Option Bool:=match P.underlying t with | some (.struct _)=>some true | some (.array _ _)=>some true | some _=>some false | none=>none
def zeroOf(P:Program)(t:TypeId):Option Value:=(P.info? t).bind (·.zero)
section
variable {P:Program}{s:St}{t:TypeId}
theorem Ex{K:Nat}{Q:Nat->St->Prop}{X:Halt->St->Prop}(h:Bm P t=some K)(k:Q K s):lp P (Go.sizeOf t) s Q X:=by
 unfold Bm at h;simp only [Go.sizeOf,typeInfo,bind,Sem.bind,program,lp];cases hi:P.info? t with
 | none=>rw [hi] at h;cases h
 | some i=>rw [hi] at h;simp at h;subst h;exact k
theorem Hd{z:Value}{Q:Value->St->Prop}{X:Halt->St->Prop}(h:zeroOf P t=some z)(k:Q z s):lp P (zeroValue t) s Q X:=by
 unfold zeroOf at h;simp only [zeroValue,typeInfo,bind,Sem.bind,program,lp];cases hi:P.info? t with
 | none=>rw [hi] at h;cases h
 | some i=>
  rw [hi] at h;simp at h;show lp P (match i.zero with | some v=>pure v | none=>unsupported _) s Q X
  rw [h];exact k
theorem Mn{c:Bool}{Q:Bool->St->Prop}{X:Halt->St->Prop}(h:Dm P t=some c)(k:Q c s):lp P (isAgg t) s Q X:=by
 unfold Dm at h;simp only [isAgg,underlying,bind,Sem.bind,program,lp];cases hu:P.underlying t with
 | none=>rw [hu] at h;cases h
 | some u=>
  rw [hu] at h;cases u <;> simp at h <;> subst h <;> exact k
theorem Cp{u:TypeDesc}{Q:TypeDesc->St->Prop}{X:Halt->St->Prop}(h:P.underlying t=some u)(k:Q u s):lp P (underlying t) s Q X:=by
 simp only [underlying,bind,Sem.bind,program,lp,h];exact k
theorem RG{a:Addr}{v:Value}{Q:Value->St->Prop}{X:Halt->St->Prop}(h:s.cell? a=some v)(k:Q v s):lp P (load a) s Q X:=⟨rfl,v,h,k⟩
theorem PK{a:Addr}{Q:Av_->St->Prop}{X:Halt->St->Prop}:∀(vs:Lv_) (i:Nat) (acc:Av_),(∀j v,vs[j]? =some v->s.cell? (a.add (i+j))=some v)->Q (acc++vs.toArray) s->lp P (loadCellsFrom a i vs.length acc) s Q X
 | [],i,acc,_,k=>by simpa [loadCellsFrom,lp,pure] using k
 | v::vs,i,acc,h,k=>by
  simp only [List.length_cons,loadCellsFrom]
  refine Av _ _ (RG (h 0 v rfl) ?_)
  refine PK vs (i+1) (acc.push v) (λj u K=>?_) (by simpa using k)
  have:=h (j+1) u (by simpa using K)
  rwa [show i+1+j=i+(j+1) from by omega]
theorem PW{a:Addr}{vs:Lv_}{m:Nat}{Q:Av_->St->Prop}{X:Halt->St->Prop}(hm:m=vs.length)(h:∀j v,vs[j]? =some v->s.cell? (a.add j)=some v)(k:Q vs.toArray s):lp P (loadCells a m) s Q X:=by
 subst hm;exact PK vs 0 #[] (λj v K=>by simpa using h j v K) (by simpa using k)
theorem PY{a:Addr}{v:Value}{Q:Value->St->Prop}{X:Halt->St->Prop}(K:Dm P t=some false)(h:s.cell? a=some v)(k:Q v s):lp P (loadVar t a) s Q X:=by
 unfold loadVar;refine Av _ _ (Mn K ?_);exact RG h k
theorem P0{a:Addr}{vs:Lv_}{Q:Value->St->Prop}{X:Halt->St->Prop}(K:Dm P t=some true)(O:Bm P t=some vs.length)(h:∀j v,vs[j]? =some v->s.cell? (a.add j)=some v)(k:Q (.agg vs.toArray) s):lp P (loadVar t a) s Q X:=by
 unfold loadVar;refine Av _ _ (Mn K ?_);show lp P (do let r ← loadCells a (← Go.sizeOf t);pure (Value.agg r)) s Q X
 refine Av (x:=Go.sizeOf t) _ (Ex O ?_);refine Av _ _ (PW rfl h ?_);exact k
end
section
variable {P:Program}{ρ:Operand->Value}{s:St}{x y z:Operand}{d:Option Tmp}{t u ty e:TypeId}{p:String}{af:Ae_}{g:On_}{v:Value}{kd kd':IntKind}{m m':Int}
theorem FL{o:Oper}{sm:Sem Value}(K:execOp ρ o=(do pure (Next.value (← sm))))(h:lp P sm s (λr s'=>r=v/\s'=s) (λ_ _=>False)):Yl P o ρ s v:=by
 unfold Yl;rw [K];exact Av _ _ (Ej _ h (λr s' ⟨O,U⟩=>⟨by rw [O],U⟩) (λ_ _ h=>h))
theorem Yl.load{a:Addr}(K:Dm P t=some false)(O:ρ x= .pointer (some a))(h:s.cell? a=some v):Yl P ⟨d,.load t x,ty,p,af,g⟩ ρ s v:=
 FL (sm:=Instr.loadAt t (ρ x)) rfl (by rw [O];exact PY K h ⟨rfl,rfl⟩)
theorem Dk{a:Addr}{vs:Lv_}(K:Dm P t=some true)(O:Bm P t=some vs.length)(U:ρ x= .pointer (some a))(h:∀j v,vs[j]? =some v->s.cell? (a.add j)=some v):Yl P ⟨d,.load t x,ty,p,af,g⟩ ρ s (.agg vs.toArray):=
 FL (sm:=Instr.loadAt t (ρ x)) rfl (by rw [U];exact P0 K O h ⟨rfl,rfl⟩)
theorem Yl.fieldAddr{a:Addr}{O:Array Field}{i:Nat}{K:Field}{U:Nat}(V:P.underlying t=some (.struct O))(hi:O[i]? =some K)(Y:Bm P K.type=some (U+1))(Z:ρ x= .pointer (some a)):
  Yl P ⟨d,.fieldAddr t x i,ty,p,af,g⟩ ρ s (.pointer (some (a.add K.offset))):=
 FL (sm:=Instr.fieldAt t (ρ x) i) rfl (by
  rw [Z];unfold Instr.fieldAt
  refine Av _ _ (Cp V ?_)
  simp only [hi,Instr.sureAddr,bind,Sem.bind,pure]
  refine Av (x:=fieldPlace a K) _ ?_
  unfold fieldPlace
  refine Av _ _ (Ex Y ?_)
  simp only [Nat.add_eq_zero_iff,Nat.succ_ne_self,and_false,if_false,lp,pure]
  exact⟨trivial,trivial⟩)
theorem Mh{a:Addr}{l c K:Nat}(O:P.underlying t=some (.slice e))(U:Bm P e=some K)(V:ρ x= .slice (some a) l c)(Y:ρ y= .int kd m)(h:0<=m/\m<l):
  Yl P ⟨d,.indexAddr t x y,ty,p,af,g⟩ ρ s (.pointer (some (a.add (m.toNat*K)))):=
 FL (sm:=Instr.indexAt t (ρ x) (ρ y)) rfl (by
  rw [V,Y];unfold Instr.indexAt
  simp only [asIntOf,bind,Sem.bind,pure]
  refine Av (x:=underlying t) _ (Cp O ?_)
  simp only [Sem.bind]
  refine Av (x:=underlying t) _ (Cp O ?_)
  simp only [Sem.bind,h,and_self,if_true]
  refine Av (x:=Go.sizeOf e) _ (Ex U ?_)
  exact⟨rfl,rfl⟩)
theorem Qo{a:Addr}{l K:Nat}(O:P.underlying t=some (.array l e))(U:Bm P e=some K)(V:ρ x= .pointer (some a))(Y:ρ y= .int kd m)(h:0<=m/\m<l):
  Yl P ⟨d,.indexAddr t x y,ty,p,af,g⟩ ρ s (.pointer (some (a.add (m.toNat*K)))):=
 FL (sm:=Instr.indexAt t (ρ x) (ρ y)) rfl (by
  rw [V,Y];unfold Instr.indexAt
  simp only [asIntOf,bind,Sem.bind,pure]
  refine Av (x:=underlying t) _ (Cp O ?_)
  simp only [Sem.bind,Instr.sureAddr,pure]
  refine Av (x:=underlying t) _ (Cp O ?_)
  simp only [Sem.bind,h,and_self,if_true]
  refine Av (x:=Go.sizeOf e) _ (Ex U ?_)
  exact⟨rfl,rfl⟩)
end
section
variable {P:Program}{J:Judge P}{Q:Gs_}{b:Frame}{n:Nat}{L L':Env}{ds:Ld_}{k:Li_}{cs:Lf_}{E H:LH}{B B':List (Nat×Obj)}
variable {ops:Ao_}{i:Nat}{rest:List Nat}{d:Option Tmp}{x y:Operand}{t u ty e:TypeId}{p:String}{af:Ae_}{g:On_}{v:Value}
theorem Ih{cells:Av_}{Q:Addr->St->Prop}{X:Halt->St->Prop}(K:Nd E H B)(k:∀r,Nd E H (B++ [(r,.cells cells e (0,0))])->Q ⟨r,0,none⟩ (mk E H (B++ [(r,.cells cells e (0,0))]))):lp P (newRow e cells) (mk E H B) Q X:=by
 simp only [newRow,newObj,bind,Sem.bind,lp,pure];refine⟨rfl,λr O U=>?_⟩;obtain⟨V,Y⟩:=JZ O U (.cells cells e (0,0)) K;rw [Y];exact k r V
theorem JL.alloc{z:Value}(K:ops[i]? =some ⟨d,.alloc e,ty,p,af,g⟩)(hw:AT L ops ⟨d,.alloc e,ty,p,af,g⟩=some true)(O:BK b n ⟨d,.alloc e,ty,p,af,g⟩=true)(U:Nd E H B)(V:zeroOf P e=some z)
  (h:∀r,Nd E H (B++ [(r,.cells z.cells e (0,0))])->JL J Q b n (Ax L d (.pointer (some ⟨r,0,none⟩))) ds (.inRegion ops rest::k) cs (mk E H (B++ [(r,.cells z.cells e (0,0))]))):
  JL J Q b n L ds (.inRegion ops (i::rest)::k) cs (mk E H B):=
 JL.op K hw O λρ _=>by
  show lp P (do pure (Next.value (← Instr.alloc e true (.tuple #[])))) _ _ _
  refine Av _ _ ?_
  unfold Instr.alloc
  refine Av _ _ (Hd V ?_)
  refine Av _ _ (Ih U λr Y=>?_)
  exact h r Y
theorem JL.box(K:ops[i]? =some ⟨d,.box e x,ty,p,af,g⟩)(hw:AT L ops ⟨d,.box e x,ty,p,af,g⟩=some true)(O:BK b n ⟨d,.box e x,ty,p,af,g⟩=true)(U:Nd E H B)(V:ev L x=some v)
  (h:∀r,Nd E H (B++ [(r,.cells v.cells e (0,0))])->JL J Q b n (Ax L d (.pointer (some ⟨r,0,none⟩))) ds (.inRegion ops rest::k) cs (mk E H (B++ [(r,.cells v.cells e (0,0))]))):
  JL J Q b n L ds (.inRegion ops (i::rest)::k) cs (mk E H B):=
 JL.op K hw O λρ Y=>by
  show lp P (do pure (Next.value (← Instr.box e (ρ x)))) _ _ _
  rw [Y x v V]
  refine Av _ _ ?_
  unfold Instr.box
  refine Av _ _ (Ih U λr Z=>?_)
  exact h r Z
def Bb(c:Av_)(off:Nat):Lv_->Av_
 | []=>c
 | v::vs=>Bb (c.setIfInBounds off v) (off+1) vs
theorem Lc(c:Av_)(off:Nat)(vs:Lv_):(Bb c off vs).size=c.size:=by
 induction vs generalizing c off with
 | nil=>rfl
 | cons v vs K=>simp [Bb,K]
theorem L6{bk:Nat}{Q:Unit->St->Prop}{X:Halt->St->Prop}{pl off:Nat}{sp:Option Nat}:∀(vs:Lv_) (j:Nat) (c:Av_) (B:List (Nat×Obj)),(∀v∈vs,BT v=true)->Nd E H B->B[pl]? =some (bk,.cells c e (0,0))->off+j+vs.length<=c.size->(sp=none∨0<j)->
  (∀B',B'=B.set pl (bk,.cells (Bb c (off+j) vs) e (0,0))->Nd E H B'->Q () (mk E H B'))->lp P (storeCells ⟨bk,off,sp⟩ vs j) (mk E H B) Q X
 | [],j,c,B,_,O,K,_,_,k=>by
  simp only [storeCells,lp,pure]
  refine k B ?_ O
  simp only [Bb]
  exact(List.ext_getElem? λi=>by
   by_cases hi:pl=i
   ·subst hi
    obtain⟨Y,Z⟩:=List.getElem?_eq_some_iff.1 K
    simp [Y,Z]
   ·simp [hi])
 | v::vs,j,c,B,U,O,K,hle,V,k=>by
  simp only [storeCells,List.length_cons] at*
  have aa:off+j<c.size:=by omega
  have ab:(Addr.add ⟨bk,off,sp⟩ j)=⟨bk,off+j,none⟩:=by
   unfold Addr.add;split
   ·rename_i ac;subst ac;rcases V with rfl | V
    ·rfl
    ·omega
   ·rfl
  have ae:(cellAt (.cells c e (0,0)) ⟨bk,off+j,none⟩).isSome=true:=by simp [cellAt,aa]
  refine Av (x:=store (Addr.add ⟨bk,off,sp⟩ j) v) _ ?_;rw [ab];refine⟨rfl,U v (by simp),_,IM O K,ae,by simp [frozenAt],?_⟩;simp only [lp];have ag:J7 (.cells c e (0,0)) ⟨bk,off+j,none⟩ v= .cells (c.setIfInBounds (off+j) v) e (0,0):=by simp [J7]
  rw [ag,X0 O K];have ah:(B.set pl (bk,.cells (c.setIfInBounds (off+j) v) e (0,0)))[pl]? =some (bk,.cells (c.setIfInBounds (off+j) v) e (0,0)):=by
   have:pl<B.length:=(List.getElem?_eq_some_iff.1 K).1;simp [this]
  refine L6 vs (j+1) _ _ (λu hu=>U u (List.mem_cons_of_mem _ hu)) (O.set K) ah (by simp;omega) (.inr (by omega)) λai e2 aj=>k ai ?_ aj;rw [e2,List.set_set];simp only [Bb]
  rfl
theorem NW{bk off pl:Nat}{c:Av_}{Q:Unit->St->Prop}{X:Halt->St->Prop}(K:Bm P t=some v.cells.size)(O:∀u∈v.cells.toList,BT u=true)(U:Nd E H B)(V:B[pl]? =some (bk,.cells c e (0,0)))(hle:off+v.cells.size<=c.size)
  (k:Nd E H (B.set pl (bk,.cells (Bb c off v.cells.toList) e (0,0)))->Q () (mk E H (B.set pl (bk,.cells (Bb c off v.cells.toList) e (0,0))))):lp P (storeVar t ⟨bk,off,none⟩ v) (mk E H B) Q X:=by
 unfold storeVar;refine Av _ _ (Ex K ?_);simp only [ne_eq,not_true_eq_false,if_false];refine L6 v.cells.toList 0 c B O U V (by simpa using hle) (.inl rfl) λB' e Y=>?_;subst e;exact k Y
theorem JL.store{bk off:Nat}{c:Av_}(pl:Nat)(O:ops[i]? =some ⟨d,.store t x y,ty,p,af,g⟩)(hw:AT L ops ⟨d,.store t x y,ty,p,af,g⟩=some true)(U:BK b n ⟨d,.store t x y,ty,p,af,g⟩=true)(V:Nd E H B)
  (Y:ev L x=some (.pointer (some ⟨bk,off,none⟩))) (Z:ev L y=some v) (aa:Bm P t=some v.cells.size) (ab:∀u∈v.cells.toList,BT u=true) (ac:B[pl]? =some (bk,.cells c e (0,0))) (hle:off+v.cells.size<=c.size)
  (h:Nd E H (B.set pl (bk,.cells (Bb c off v.cells.toList) e (0,0)))->JL J Q b n (Ax L d undef) ds (.inRegion ops rest::k) cs (mk E H (B.set pl (bk,.cells (Bb c off v.cells.toList) e (0,0))))):
  JL J Q b n L ds (.inRegion ops (i::rest)::k) cs (mk E H B):=
 JL.op O hw U λρ K=>by
  show lp P (do Instr.storeAt t (ρ x) (ρ y);pure Next.skip) _ _ _
  rw [K x _ Y,K y _ Z]
  refine Av _ _ ?_
  unfold Instr.storeAt
  simp only [Instr.sureAddr,bind,Sem.bind,pure]
  exact NW aa ab V ac hle λae=>h ae
end
end Pal
namespace Pal
open Go Go.Conc
def Fp(P:Program)(t:TypeId):Option Nat:=(P.info? t).map (·.bytes)
section
variable {P:Program}{J:Judge P}{Q:Gs_}{b:Frame}{n:Nat}{L L':Env}{ds:Ld_}{k:Li_}{cs:Lf_}{E H:LH}{B B':List (Nat×Obj)}{s:St}
variable {ops:Ao_}{i:Nat}{rest:List Nat}{d:Option Tmp}{x y:Operand}{t u ty e:TypeId}{p:String}{af:Ae_}{g:On_}{v:Value}
theorem JJ{inf:TypeInfo}{Q:TypeInfo->St->Prop}{X:Halt->St->Prop}(h:P.info? t=some inf)(k:Q inf s):lp P (typeInfo t) s Q X:=by
 simp only [typeInfo,bind,Sem.bind,program,lp,h];exact k
theorem Oi{K:Nat}(h:Fp P t=some K):∃inf,P.info? t=some inf/\inf.bytes=K:=by
 unfold Fp at h;cases hi:P.info? t with
 | none=>rw [hi] at h;cases h
 | some i=>rw [hi] at h;simp at h;exact⟨i,rfl,h⟩
theorem IJ{β:Type}{z y:Nat}{code:BoundsCode}{f:Nat->Sem β}{K:β->St->Prop}{X:Halt->St->Prop}(V:z<=y)(O:lp P (f z) s K X):lp P (Instr.sliceBound (.int .i64 z) y code>>=f) s K X:=by
 refine Av _ _ ?_;unfold Instr.sliceBound;have U:(0:Int)<=(z:Int)/\(z:Int)<=(y:Int):=⟨by omega,by omega⟩;simp only [asIntOf,bind,Sem.bind,pure];rw [if_pos U];simpa [lp] using O
theorem HJ{α β:Type}(a:α)(f:α->Sem β):((pure a:Sem α)>>=f)=f a:=rfl
theorem YO{l c:Nat}{X:Halt->St->Prop}:lp P (Instr.sliceBounds true l c none none none) s (λr s'=>r=(0,l,c)/\s'=s) X:=by
 unfold Instr.sliceBounds;exact⟨rfl,rfl⟩
theorem Y3{l c:Nat}{lo:Nat}(K:lo<=l){X:Halt->St->Prop}:lp P (Instr.sliceBounds true l c (some (.int .i64 lo)) none none) s (λr s'=>r=(lo,l,c)/\s'=s) X:=by
 simp only [Instr.sliceBounds,if_true,Option.isSome_none,Option.isSome_some,Bool.false_eq_true,if_false,HJ];exact IJ K ⟨rfl,rfl⟩
theorem Yk{l c:Nat}{hi:Nat}(hh:hi<=c){X:Halt->St->Prop}:lp P (Instr.sliceBounds true l c none (some (.int .i64 hi)) none) s (λr s'=>r=(0,hi,c)/\s'=s) X:=by
 simp only [Instr.sliceBounds,if_true,Option.isSome_none,Option.isSome_some,Bool.false_eq_true,if_false,HJ];exact IJ hh ⟨rfl,rfl⟩
theorem Yr{l c:Nat}{lo hi:Nat}(hh:hi<=c)(K:lo<=hi){X:Halt->St->Prop}:lp P (Instr.sliceBounds true l c (some (.int .i64 lo)) (some (.int .i64 hi)) none) s (λr s'=>r=(lo,hi,c)/\s'=s) X:=by
 have e:Instr.sliceBounds true l c (some (.int .i64 lo)) (some (.int .i64 hi)) none=(Instr.sliceBound (.int .i64 hi) c .sliceAcap>>=λh=>Instr.sliceBound (.int .i64 lo) h .sliceB>>=λl=>pure (l,h,c)):=by
  simp [Instr.sliceBounds]
 rw [e];exact IJ hh (IJ K ⟨rfl,rfl⟩)
theorem Yw{l c:Nat}{hi mx:Nat}(hm:mx<=c)(hh:hi<=mx){X:Halt->St->Prop}:lp P (Instr.sliceBounds true l c none (some (.int .i64 hi)) (some (.int .i64 mx))) s (λr s'=>r=(0,hi,mx)/\s'=s) X:=by
 simp only [Instr.sliceBounds,if_true,Option.isSome_none,Option.isSome_some,Bool.false_eq_true,if_false,HJ];exact IJ hm (IJ hh ⟨rfl,rfl⟩)
theorem YJ{l c:Nat}{lo hi mx:Nat}(hm:mx<=c)(hh:hi<=mx)(K:lo<=hi){X:Halt->St->Prop}:lp P (Instr.sliceBounds true l c (some (.int .i64 lo)) (some (.int .i64 hi)) (some (.int .i64 mx))) s (λr s'=>r=(lo,hi,mx)/\s'=s) X:=by
 simp only [Instr.sliceBounds,if_true,Option.isSome_none,Option.isSome_some,Bool.false_eq_true,if_false,HJ];exact IJ hm (IJ hh (IJ K ⟨rfl,rfl⟩))
theorem Up{l c lo hi mx:Nat}{V Y Z:Option Value}{X:Halt->St->Prop}
  (O:match Z with | some w=>w= .int .i64 mx | none=>mx=c) (K:match Y with | some w=>w= .int .i64 hi | none=>hi=l/\Z=none) (U:match V with | some w=>w= .int .i64 lo | none=>lo=0) (hm:mx<=c) (hh:hi<=mx) (aa:lo<=hi):
  lp P (Instr.sliceBounds true l c V Y Z) s (λr s'=>r=(lo,hi,mx)/\s'=s) X:=by
 cases Z with
 | none=>
  cases Y with
  | none=>
   cases V with
   | none=>obtain rfl:mx=c:=O;obtain rfl:hi=l:=K.1;obtain rfl:lo=0:=U;exact YO
   | some w=>obtain rfl:mx=c:=O;obtain rfl:hi=l:=K.1;obtain rfl:w= .int .i64 lo:=U;exact Y3 aa
  | some w=>
   cases V with
   | none=>obtain rfl:mx=c:=O;obtain rfl:w= .int .i64 hi:=K;obtain rfl:lo=0:=U;exact Yk hh
   | some w'=>obtain rfl:mx=c:=O;obtain rfl:w= .int .i64 hi:=K;obtain rfl:w'= .int .i64 lo:=U;exact Yr hh aa
 | some w0=>
  cases Y with
  | none=>exact absurd K.2 (λh=>by cases h)
  | some w=>
   cases V with
   | none=>obtain rfl:w0= .int .i64 mx:=O;obtain rfl:w= .int .i64 hi:=K;obtain rfl:lo=0:=U;exact Yw hm hh
   | some w'=>obtain rfl:w0= .int .i64 mx:=O;obtain rfl:w= .int .i64 hi:=K;obtain rfl:w'= .int .i64 lo:=U;exact YJ hm hh aa
theorem Vq{a:Option Addr}{l c O lo hi mx:Nat}{U V K:Option Value}{Q:Value->St->Prop}{X:Halt->St->Prop}(Y:P.underlying t=some (.slice e))(Z:Bm P e=some O)
  (aa:match K with | some w=>w= .int .i64 mx | none=>mx=c) (ab:match V with | some w=>w= .int .i64 hi | none=>hi=l/\K=none) (ac:match U with | some w=>w= .int .i64 lo | none=>lo=0) (hm:mx<=c) (hh:hi<=mx) (ae:lo<=hi)
  (k:Q (.slice (if mx=lo then a else a.map (·.add (lo*O))) (hi - lo) (mx - lo)) s):lp P (Instr.slice t (.slice a l c) U V K) s Q X:=by
 unfold Instr.slice;refine Av _ _ (Cp Y ?_);have hb:=Up (P:=P) (s:=s) (X:=X) aa ab ac hm hh ae;refine Av _ _ (Ej _ hb ?_ (λ_ _ h=>h));rintro r s' ⟨rfl,rfl⟩;exact Av _ _ (Ex Z k)
theorem Yl.slice{ρ:Operand->Value}{a:Option Addr}{l c O lo hi mx:Nat}{olo ohi omx:Option Operand}(U:P.underlying t=some (.slice e))(V:Bm P e=some O)(Y:ρ x= .slice a l c)
  (Z:match omx with | some w=>ρ w= .int .i64 mx | none=>mx=c) (K:match ohi with | some w=>ρ w= .int .i64 hi | none=>hi=l/\omx=none) (aa:match olo with | some w=>ρ w= .int .i64 lo | none=>lo=0) (hm:mx<=c) (hh:hi<=mx) (ab:lo<=hi):
  Yl P ⟨d,.slice t x olo ohi omx,ty,p,af,g⟩ ρ s (.slice (if mx=lo then a else a.map (·.add (lo*O))) (hi - lo) (mx - lo)):=
 FL (sm:=Instr.sliceAt t (ρ x) (olo.map ρ) (ohi.map ρ) (omx.map ρ)) rfl (by
  rw [Y];unfold Instr.sliceAt
  refine Av _ _ (Cp U ?_)
  refine Vq U V (mx:=mx) (hi:=hi) (lo:=lo) ?_ ?_ ?_ hm hh ab ⟨rfl,rfl⟩
  ·cases omx <;> exact Z
  ·cases ohi with
   | none=>exact⟨K.1,by rw [K.2];rfl⟩
   | some w=>exact K
  ·cases olo <;> exact aa)
def Hq(s:St)(v:Value)(K:Nat)(xs:Lv_):Prop:=
 match v with
 | .slice (some a) l c=>(a.spot=none∨l=0)/\xs.length=l*K/\l<=c/\∀j w,xs[j]? =some w->s.cell? ⟨a.block,a.off+j,none⟩=some w
 | .slice none l _=>l=0/\xs= []
 | _=>False
theorem DR{a:Addr}(h:a.spot=none)(j:Nat):a.add j=⟨a.block,a.off+j,none⟩:=by
 unfold Addr.add;obtain⟨b,o,sp⟩:=a;simp only at h;subst h;split
 ·rename_i e;subst e;rfl
 ·rfl
theorem JI{V l:Nat}{xs:Lv_}{Q:Av_->St->Prop}{X:Halt->St->Prop}(Y:∃a c,v= .slice a l c)(h:Hq s v V xs)(k:Q xs.toArray s):lp P (Builtin.firstCells V l v) s Q X:=by
 obtain⟨a,c,rfl⟩:=Y;cases a with
 | none=>
  obtain⟨K,rfl⟩:=h;exact k
 | some a=>
  obtain⟨K,O,aa,Z⟩:=h;refine PW O.symm (λj w U=>?_) k;rcases K with K | K
  ·rw [DR K];exact Z j w U
  ·rw [K,Nat.zero_mul] at O;rw [List.eq_nil_of_length_eq_zero O] at U;cases U
theorem UQ(nl:Nat):∀(r c:Nat),Builtin.growBy nl r c<=max c (2*nl+768):=by
 intro r
 induction r with
 | zero=>intro c;simp [Builtin.growBy];omega
 | succ r K=>
  intro c;simp only [Builtin.growBy];split
  ·omega
  ·rename_i h;have:=K (c+(c+768) / 4);omega
theorem P3{need old:Nat}(h:old<need):Builtin.nextslicecap need old<=2*need+768:=by
 unfold Builtin.nextslicecap;split
 ·omega
 ·split
  ·omega
  ·have:=UQ need 4 old;omega
theorem PL(z:Av_)(m:Nat):(Builtin.zeroCells z m).size=m*z.size:=by simp [Builtin.zeroCells]
def M6(B:List (Nat×Obj))(pl:Nat)(e:TypeId)(K:Nat)(a:Option Addr)(l c:Nat)(xs:Lv_):Prop:=
 (a=none/\l=0/\c=0/\xs= [])∨∃bk f,a=some ⟨bk,0,none⟩/\B[pl]? =some (bk,.cells f e (0,0))/\f.size=c*K/\l<=c/\xs=f.toList.take (l*K)
theorem NR(c:Av_)(off:Nat)(vs:Lv_)(h:off+vs.length<=c.size):(Bb c off vs).toList.take (off+vs.length)=c.toList.take off++vs:=by
 induction vs generalizing c off with
 | nil=>simp [Bb]
 | cons v vs O=>
  simp only [Bb,List.length_cons] at*;have:=O (c.setIfInBounds off v) (off+1) (by simp;omega);rw [show off+(vs.length+1)=off+1+vs.length from by omega,this];have K:off<c.toList.length:=by simp;omega
  rw [Array.toList_setIfInBounds,List.take_add_one];have U:(c.toList.set off v)[off]? =some v:=by simp at K;simp [K]
  rw [U];simp [List.take_set_of_le]
theorem Oj{ats:Array TypeId}{a:Option Addr}{l c K V m cx:Nat}{ax:Option Addr}{xs ys:Lv_}{z:Value}{Q:Value->St->Prop}{X:Halt->St->Prop}{pl:Nat}
  (au:ats[0]? =some t) {t1 av:TypeId} (aw:ats[1]? =some t1) (ay:P.underlying t1=some (.slice av)) (az:P.underlying t=some (.slice e)) (aA:Bm P e=some K) (hb:Fp P e=some V) (aB:zeroOf P e=some z) (aC:z.cells.size=K)
  (ag:Nd E H B) (ah:M6 B pl e K a l c xs)
  (ac:Hq (mk E H B) (.slice ax m cx) K ys) (aD:∀w∈ys,BT w=true) (aO:0<V) (aP:l+m<=2 ^ 40) (aE:V<=64)
  (aF:∀bk f O,a=some ⟨bk,0,none⟩->B[pl]? =some (bk,.cells f e (0,0))->O=Bb f (l*K) ys->l+m<=c->O.size=c*K->O.toList.take ((l+m)*K)=xs++ys->Nd E H (B.set pl (bk,.cells O e (0,0)))->Q (.slice a (l+m) c) (mk E H (B.set pl (bk,.cells O e (0,0)))))
  (aG:a=none->m=0->Q (.slice none 0 0) (mk E H B))
  (aH:∀r O Y,l+m<=Y->O.size=Y*K->O.toList.take ((l+m)*K)=xs++ys->Nd E H (B++ [(r,.cells O e (0,0))])->Q (.slice (some ⟨r,0,none⟩) (l+m) Y) (mk E H (B++ [(r,.cells O e (0,0))]))):
  lp P (Builtin.append_ ats ty #[.slice a l c,.slice ax m cx]) (mk E H B) Q X:=by
 unfold Builtin.append_;simp only [au,aw,List.getElem?_toArray,List.getElem?_cons_zero,List.getElem?_cons_succ];refine Av _ _ (Cp az ?_);refine Av _ _ (Ex aA ?_);refine Av _ _ (Cp ay ?_);simp only [HJ,Bool.false_eq_true,if_false,Builtin.lenOf,Bool.not_false,if_true];have Z:ys.length=m*K:=by
  cases ax with
  | none=>obtain⟨ai,aj⟩:=ac;subst ai aj;simp
  | some ad=>exact ac.2.1
 have ak:∃(aI:Option Addr) (Y:Nat),Hq (mk E H B) (.slice a l c) K xs/\aI=a/\Y=c:=by
  refine⟨a,c,?_,rfl,rfl⟩;rcases ah with⟨rfl,rfl,rfl,rfl⟩ | ⟨bk,f,rfl,aa,U,ab,rfl⟩
  ·exact⟨rfl,rfl⟩
  ·have hle:l*K<=f.size:=by rw [U];exact Nat.mul_le_mul_right _ ab
   refine⟨.inl rfl,by simp [Nat.min_eq_left hle],ab,λj w ae=>?_⟩;refine QF ag aa ?_;simp only [Nat.zero_add];rw [List.getElem?_take] at ae;split at ae
   ·simpa using ae
   ·cases ae
 obtain⟨_,_,ak,_,_⟩:=ak;have al:xs.length=l*K:=by
  rcases ah with⟨rfl,rfl,rfl,rfl⟩ | ⟨bk,f,rfl,aa,U,ab,rfl⟩
  ·simp
  ·have hle:l*K<=f.size:=by rw [U];exact Nat.mul_le_mul_right _ ab
   simp [Nat.min_eq_left hle]
 split
 ·rename_i aq;refine Av _ _ (JI ⟨ax,cx,rfl⟩ ac ?_);rcases ah with⟨rfl,rfl,rfl,rfl⟩ | ⟨bk,f,rfl,aa,U,ab,rfl⟩
  ·obtain rfl:m=0:=by omega
   simp only;exact aG rfl rfl
  ·simp only;have hle:l*K+ys.length<=f.size:=by rw [Z,U,← Nat.add_mul];exact Nat.mul_le_mul_right _ aq
   have aJ:(Addr.add ⟨bk,0,none⟩ (l*K))=⟨bk,l*K,none⟩:=by rw [DR rfl];simp
   rw [aJ];refine Av _ _ (L6 (pl:=pl) ys.toArray.toList 0 f B (by simpa using aD) ag aa (by simpa using hle) (.inl rfl) λB' ar am=>?_);simp only [Nat.add_zero] at ar;subst ar;refine aF bk f _ rfl aa rfl aq (by rw [Lc,U]) ?_ am;have:=NR f (l*K) ys hle;rw [Z,← Nat.add_mul] at this;exact this
 ·rename_i aQ;have ai:¬(((l+m:Nat):Int)>IntKind.i64.max/\(False∨V=0)):=by rintro⟨_,h | h⟩ <;> omega
  have aj:¬(Builtin.nextslicecap (l+m) c*V>2 ^ 48):=by
   have:=P3 (need:=l+m) (old:=c) (by omega);have aR:Builtin.nextslicecap (l+m) c*V<=(2*(l+m)+768)*64:=Nat.mul_le_mul this aE;omega
  obtain⟨inf,an,ao⟩:=Oi hb;refine Av _ _ (JJ an ?_);rw [ao,if_neg ai];refine Av _ _ (JJ an ?_);rw [ao,if_neg aj];refine Av _ _ ?_;simp only [choose,lp,Question.forced,Bool.false_eq_true,if_false];refine⟨rfl,λaK=>?_⟩;generalize aL:(Question.appendCap (l+m) c e).cut aK=ap;have aM:l+m<=ap:=by rw [← aL];simp [Question.cut]
  refine Av _ _ (JJ an ?_);rw [ao];have aN:∀{α:Type} {f:Unit->Sem α} {Q:α->St->Prop},lp P (f ()) (mk E H B) Q X->lp P (askRoom (ap*V)>>=f) (mk E H B) Q X:=by
   intro α f Q U;refine Av _ _ ?_;unfold askRoom;split
   ·exact⟨.inl ⟨rfl,rfl⟩,U⟩
   ·exact U
  refine aN (Av _ _ (JI ⟨a,c,rfl⟩ ak ?_));refine Av _ _ (JI ⟨ax,cx,rfl⟩ ac ?_);refine Av _ _ (Hd aB ?_);refine Av _ _ (Ih ag λr am=>?_);refine aH r _ ap aM ?_ ?_ am
  ·simp only [Array.size_append,List.size_toArray,PL,aC,al,Z];rw [← Nat.add_mul,← Nat.add_mul];congr 1;omega
  ·simp only [Array.toList_append];rw [List.take_append_of_le_length (by simp [al,Z,Nat.add_mul])];rw [List.take_of_length_le (by simp [al,Z,Nat.add_mul])]
end
end Pal
namespace Pal
open Go Go.Conc
theorem Nr{P:Program}{α:Type}(x:Sem α):∀{s:St} {Q:α->St->Prop} {X:Halt->St->Prop},lp P x s Q X->lp P x s (λa s'=>Q a s'/\s'.E=s.E/\s'.q=s.q) X:=by
 induction x with
 | pure a=>intro s Q X h;exact⟨h,rfl,rfl⟩
 | load m a k K=>intro s Q X h;obtain⟨O,v,U,V⟩:=h;exact⟨O,v,U,K _ V⟩
 | store m a v k K=>intro s Q X h;obtain⟨O,U,o,V,Z,aa,ab⟩:=h;exact⟨O,U,o,V,Z,aa,K ab⟩
 | new o k K=>intro s Q X h;exact⟨h.1,λr O U=>K _ (h.2 r O U)⟩
 | shape r k K=>intro s Q X h;obtain⟨o,O,U⟩:=h;exact⟨o,O,K _ U⟩
 | freeze a n k K=>intro s Q X h;exact h
 | frozen a k K=>intro s Q X h;obtain⟨o,O,U⟩:=h;exact⟨o,O,K _ U⟩
 | getObj r k K=>intro s Q X h;obtain⟨o,O,U,V⟩:=h;exact⟨o,O,U,K _ V⟩
 | setObj r o k K=>intro s Q X h;obtain⟨O,U,V⟩:=h;exact⟨O,U,K V⟩
 | choose q k K=>
  intro s Q X h;simp only [lp] at h ⊢;split
  ·rename_i Y;rw [if_pos Y] at h;exact K _ h
  ·rename_i Y;rw [if_neg Y] at h;exact⟨h.1,λt=>K _ (h.2 t)⟩
 | sys c k K=>intro s Q X h;exact h
 | program k K=>intro s Q X h;exact K _ h
 | mark m k K=>intro s Q X h;exact⟨h.1,K h.2⟩
 | halt h=>intro s Q X h;exact h
def Bx(D:Nat->Bool)(s:St):St:=⟨λb=>if D b then s.get b else s.E b,λb=>if D b then none else s.H b,s.q⟩
def Cy(D:Nat->Bool)(s s':St):St:=⟨λb=>if D b then s.E b else s'.E b,λb=>if D b then s.H b else s'.H b,s'.q⟩
theorem Kq(D:Nat->Bool)(s:St):Cy D s (Bx D s)=s:=by
 obtain⟨E,H,q⟩:=s;unfold Cy Bx;congr 1
 ·funext b;by_cases h:D b <;> simp [h]
 ·funext b;by_cases h:D b <;> simp [h]
theorem V1{D:Nat->Bool}{s:St}{w:World}(f:Fits s w):Fits (Bx D s) w where
 e b o h:=by
  by_cases hd:D b
  ·simp [Bx,hd] at h;exact f.get h
  ·simp [Bx,hd] at h;exact f.e b o h
 h b o h:=by
  by_cases hd:D b
  ·simp [Bx,hd] at h
  ·simp [Bx,hd] at h;exact f.h b o h
 d b h:=by
  by_cases hd:D b
  ·simp [Bx,hd]
  ·simp [Bx,hd] at h ⊢;exact f.d b h
def EH{P:Program}(J:Judge P)(f:FuncId)(args:Av_)(s:St)(R:Value->St->Prop):Prop:=
 ∀(Q:Gs_) (c:Frame) (cs:Lf_),(∀v s',R v s'->J.ok Q (G (c.finish v) cs) s')->J.ok Q (G (Frame.enter P f args .normal) (c::cs)) s
theorem EH.Ag{P:Program}{J:Judge P}{f:FuncId}{args:Av_}{s:St}{R K:Value->St->Prop}(h:EH J f args s R)(O:∀v s',R v s'->K v s'):EH J f args s K:=
 λQ c cs U=>h Q c cs λv s' V=>U v s' (O v s' V)
section
variable {P:Program}{J:Judge P}{Q:Gs_}{b:Frame}{n:Nat}{L L':Env}{ds:Ld_}{k:Li_}{cs:Lf_}{s s':St}
theorem Judge.RE(D:Nat->Bool){T:Av_}{ops:Ao_}{i:Nat}{rest:List Nat}{o:Oper}(V:ops[i]? =some o)(hw:Region.wanted o (yielded ops T)=true)(ar:b.kind≠ .early)
  (hd:∀c,o.op≠ .defer c) (au:s.q=false)
  (h:lp P (execOp (By T) o) (Bx D s) (λae s'=>upon J Q b T ds ops i rest k cs o.dst ae (Cy D s s')) (λ_ _=>False)):
  J.ok Q (G (fr b T ds (.inRegion ops (i::rest)::k)) cs) s:=by
 refine J.step ⟨rfl,λw f=>?_,λe=>by subst e;cases au⟩;have Y:((fr b T ds (.inRegion ops (i::rest)::k)).kind==CallKind.early)=false:=by simpa [fr] using ar
 have av:stepG P J.main (G (fr b T ds (.inRegion ops (i::rest)::k)) cs) w=stepG.apply P true (fr b T ds (.inRegion ops (i::rest)::k)) cs none (execOp (By T) o) w:=by
  rw [stepG_op V hw];split
  ·rename_i l c aD e2;exact absurd e2 (hd c)
  ·rfl
 obtain⟨Z,ag,ah,aw,O⟩:=Mo _ (Nr _ h) (V1 (D:=D) f);have ai:=Ow (P:=P) (fn:=b.fn) aw;have am:=λv=>Gc (b:=b) (ds:=ds) (k:=k) T ops i rest v o V;have key:∀w',Fits Z w'->Fr (Bx D s) w Z w'->Z.E=(Bx D s).E->Fits (Cy D s Z) w'/\Fr s w (Cy D s Z) w':=by
  intro w' aj g2 ay;have an:∀b,D b=true->b<w.heap.size->w'.heap[b]? =w.heap[b]? :=λb hb ak=>g2.keep b ak (by simp [Bx,hb]);have ao:∀b o,(s.H b=some o∨s.E b=some o)->b<w.heap.size:=λb o V=>by
   have:=V.elim (f.h b o) (f.e b o);rcases Nat.lt_or_ge b w.heap.size with al | al
   ·exact al
   ·simp [Array.getElem?_eq_none al] at this
  refine⟨⟨λb o hb=>?_,λb o hb=>?_,λb hb=>?_⟩,⟨g2.size,λb ak hb=>?_,λb hb=>?_,λb o hb=>?_,λb hb=>?_,g2.tape,g2.os,g2.output⟩⟩
  ·by_cases K:D b
   ·simp [Cy,K] at hb;rw [an b K (ao b o (.inr hb))];exact f.e b o hb
   ·simp [Cy,K] at hb;exact aj.e b o hb
  ·by_cases K:D b
   ·simp [Cy,K] at hb;rw [an b K (ao b o (.inl hb))];exact f.h b o hb
   ·simp [Cy,K] at hb;exact aj.h b o hb
  ·by_cases K:D b
   ·simp [Cy,K] at hb ⊢;exact f.d b hb
   ·simp [Cy,K] at hb ⊢;exact aj.d b hb
  ·exact g2.keep b ak (by by_cases K:D b <;> simp [Bx,K,hb])
  ·by_cases K:D b
   ·simp [Cy,K] at hb;exact .inl hb
   ·simp [Cy,K] at hb;rcases g2.own b hb with q | q
    ·left;simpa [Bx,K] using q
    ·exact .inr q
  ·by_cases K:D b
   ·simp [Cy,K];exact hb
   ·simp only [Cy,K,Bool.false_eq_true,if_false];rw [ay];simp [Bx,K,hb]
  ·by_cases K:D b
   ·simp [Cy,K] at hb;exact .inl hb
   ·simp [Cy,K] at hb;rcases g2.ED b hb with q | q | q
    ·left;simpa [Bx,K] using q
    ·right;left;simpa [Bx,K] using q
    ·exact .inr (.inr q)
 have az:∀w',(∀e∈seen P b.fn ((execOp (By T) o).events P w #[]),Ev (Bx D s) w w' e)->∀e∈seen P b.fn ((execOp (By T) o).events P w #[]),Ev s w w' e:=by
  intro w' he e hm;have:=he e hm;have ap:∀{b wr},Gw (Bx D s) w w' b wr->Gw s w w' b wr:=by
   intro b wr aq;refine⟨aq.1,?_⟩;rcases aq.2 with q | q | ⟨q,q'⟩
   ·left;by_cases K:D b <;> simp [Bx,K] at q;exact q
   ·exact .inr (.inl q)
   ·by_cases K:D b
    ·simp [Bx,K,St.get] at q;by_cases ac:s.E b=none
     ·left;intro aA;rw [ac,aA] at q;exact q rfl
     ·exact .inr (.inr ⟨ac,q'⟩)
    ·simp [Bx,K] at q;exact .inr (.inr ⟨q,q'⟩)
  unfold Ev at this ⊢;split <;> rename_i aB <;> simp only [aB] at this
  ·exact⟨this.1,ap this.2⟩
  ·exact⟨this.1,ap this.2⟩
  ·trivial
  ·trivial
 rw [av];cases U:(execOp (By T) o).run P w with
 | ok ae w'=>
  rw [U] at ag ah O ai;simp only [Kc] at ag ah ai;obtain⟨O,ac,_⟩:=O;obtain⟨k1,aa⟩:=key w' ag ah ac;have ab:=az w' ai;cases ae with
  | value v=>exact⟨_,_,w',seen P b.fn ((execOp (By T) o).events P w #[])++ #[],by simp [stepG.apply,U,Y,GStep.after,G,am,FO],O,k1,aa,by simpa using ab⟩
  | skip=>exact⟨_,_,w',seen P b.fn ((execOp (By T) o).events P w #[])++ #[],by simp [stepG.apply,U,Y,GStep.after,G,am,FO],O,k1,aa,by simpa using ab⟩
  | enter g args=>exact⟨_,_,w',seen P b.fn ((execOp (By T) o).events P w #[])++ #[],by simp [stepG.apply,U,Y,GStep.after,G,FO,HQ],O,k1,aa,by simpa using ab⟩
  | round l g tm as aE=>exact⟨_,_,w',seen P b.fn ((execOp (By T) o).events P w #[])++ #[],by simp [stepG.apply,U,Y,GStep.after,G,FO,HQ],O,k1,aa,by simpa using ab⟩
  | defer d=>
   have aC:=Gc (b:=b) (ds:=d::ds) (k:=k) T ops i rest undef o V;exact⟨_,_,w',seen P b.fn ((execOp (By T) o).events P w #[])++ #[],by
    rw [← aC];simp [stepG.apply,U,Y,GStep.after,G,FO,HQ];rfl,O,k1,aa,by simpa using ab⟩
  | _=>exact O.elim
 | halt x w'=>rw [U] at O;exact O.elim
end
end Pal
namespace Pal
open Go Go.Conc
def Pe(m:Nat)(listed:Array Bool):Bool:=(List.range m).all λi=>listed.getD i false
def Ba(listed:Array Bool)(i:Nat):Array Bool:=listed.setIfInBounds i true
section
variable {P:Program}(J:Judge P)(Q:Gs_)(b:Frame)(ds:Ld_)(ops:Ao_)(k:Li_)(cs:Lf_)(m:Nat)(D:Nat->Bool)
def JA:Nat->Array Bool->Av_->St->Prop
 | 0,listed,T,s=>Region.ready .any ops listed= []/\J.ok Q (G (fr b T ds (.inRegion ops []::k)) cs) s
 | fuel+1,listed,T,s=>
  (Pe m listed=true/\∀t,J.ok Q (G (fr b T ds (.inRegion ops (Region.linearise.go .any ops (fuel+1) t listed [])::k)) cs) s)∨
  (Region.ready .any ops listed≠ []/\s.q=false/\∀i∈Region.ready .any ops listed,∀o,ops[i]? =some o->(∀c,o.op≠ .defer c)/\
   (Region.wanted o (yielded ops T)=false->JA fuel (Ba listed i) (CM T o.dst undef) s)/\
   (Region.wanted o (yielded ops T)=true->lp P (execOp (By T) o) (Bx D s) (λO s'=>match O with
    | .value v=>JA fuel (Ba listed i) (CM T o.dst v) (Cy D s s')
    | .skip=>JA fuel (Ba listed i) (CM T o.dst undef) (Cy D s s')
    | .enter f args=>∃R,EH J f args (Cy D s s') R/\∀v K,R v K->K.q=false/\(∀x o,(Bx D s).E x=some o->(Bx D K).E x=some o)/\JA fuel (Ba listed i) (CM T o.dst v) K
    | _=>False) (λ_ _=>False)))
variable {J Q b ds ops k cs m D}
theorem Vu(Y:b.kind≠ .early):∀(fuel t:Nat) (listed:Array Bool) (T:Av_) (s:St),JA J Q b ds ops k cs m D fuel listed T s->
  J.ok Q (G (fr b T ds (.inRegion ops (Region.linearise.go .any ops fuel t listed [])::k)) cs) s:=by
 intro fuel
 induction fuel with
 | zero=>intro t listed T s h;simpa [Region.linearise.go] using h.2
 | succ fuel K=>
  intro t listed T s h;rcases h with⟨_,h⟩ | ⟨Z,aa,h⟩
  ·exact h t
  ·obtain⟨i,hi⟩:∃i,(Region.ready .any ops listed)[t % (Region.ready .any ops listed).length]? =some i:=by
    have:0<(Region.ready .any ops listed).length:=List.length_pos_iff.2 Z;exact⟨_,List.getElem?_eq_getElem (Nat.mod_lt _ this)⟩
   have V:=List.mem_of_getElem? hi;have hgo:Region.linearise.go .any ops (fuel+1) t listed []=i::Region.linearise.go .any ops fuel (t / (Region.ready .any ops listed).length) (Ba listed i) []:=by
    simp only [Region.linearise.go];change (match(Region.ready .any ops listed)[t % (Region.ready .any ops listed).length]? with
     | some i=>Region.linearise.go .any ops fuel (t / (Region.ready .any ops listed).length) (listed.setIfInBounds i true) [i]
     | none=> [].reverse)=_
    rw [hi];simp only;rw [linearise_go_acc];rfl
   rw [hgo];obtain⟨_,o,O,_⟩:=mem_ready.1 V;obtain⟨hd,ab,ac⟩:=h i V o O;cases hw:Region.wanted o (yielded ops T) with
   | false=>exact Judge.unwanted O hw (K _ _ _ _ (ab hw))
   | true=>
    refine Judge.RE D O hw Y hd aa (Ej _ (ac hw) ?_ (λ_ _ h=>h));intro ae s' U;cases ae with
    | value v=>exact K _ _ _ _ U
    | skip=>exact K _ _ _ _ U
    | enter f args=>
     obtain⟨R,ag,ah⟩:=U;refine ag Q _ cs λv ai aj=>?_;rw [Gc _ _ _ _ _ _ O];exact K _ _ _ _ (ah v ai aj).2.2
    | _=>exact U.elim
theorem V2{T:Av_}{d:Option Tmp}{v:Value}{x:Operand}(h:∀t,d=some t->x≠ .tmp t):By (CM T d v) x=By T x:=by
 cases d with
 | none=>rfl
 | some t=>
  cases x with
  | tmp u=>
   have K:t≠u:=λe=>h t rfl (e▸rfl);simp only [CM,By,Array.getD_eq_getD_getElem?,Array.getElem?_setIfInBounds_ne K]
  | _=>rfl
theorem HL{T:Av_}{d:Option Tmp}{v:Value}{o:Oper}(K:∀cs b,o.op≠ .select cs b)(h:∀t,d=some t->t ∉ o.looksAt ops):
  execOp (By (CM T d v)) o=execOp (By T) o/\Region.wanted o (yielded ops (CM T d v))=Region.wanted o (yielded ops T):=by
 refine⟨execOp_congr o K λx O=>V2 λt U V=>h t U ?_,?_⟩
 ·subst V;exact List.mem_append_left _ (List.mem_filterMap.2 ⟨.tmp t,by simpa using O,rfl⟩)
 ·have:=wanted_put (ops:=ops) o (⟨T,[]⟩:Act) d v h
  rwa [act_put'] at this
 where
  act_put' {T : Av_} {d : Option Tmp} {v : Value} : (⟨T, []⟩ : Act).put d v = ⟨CM T d v, []⟩ := by cases d <;> rfl
theorem IH{T:Av_}{d e:Option Tmp}{v u:Value}(h:∀t,d=some t->e≠some t):CM (CM T d v) e u=CM (CM T e u) d v:=by
 cases d with
 | none=>rfl
 | some t=>
  cases e with
  | none=>rfl
  | some K=>
   have O:t≠K:=λq=>h t rfl (q▸rfl);simp [CM,Array.setIfInBounds_comm _ _ O]
theorem PZ{D:Nat->Bool}{s s':St}(K:s'.E=(Bx D s).E):(Bx D (Cy D s s')).E=(Bx D s).E:=by
 funext x;by_cases h:D x
 ·simp [Bx,Cy,h,St.get]
 ·have:=congrFun K x;simp [Bx,h] at this;simp [Bx,Cy,h,this]
def Ip(ops:Ao_)(listed:Array Bool)(i:Nat)(oi:Oper):Bool:=
 (List.range ops.size).all λj=>j==i || listed.getD j true || match ops[j]? with
  | some K=>(K.after.any λe=>Region.binds .any e&&e.on==i) || oi.apart ops K
  | none=>true
def waits(ops:Ao_):Nat->Nat->Nat->Bool
 | 0,_,_=>false
 | f+1,j,i=>match ops[j]? with
  | some K=>K.after.any λe=>Region.binds .any e&&(e.on==i || waits ops f e.on i)
  | none=>true
def DU(ops:Ao_)(m:Nat):Bool:=
 (List.range ops.size).all λj=>decide (j<m) || (List.range m).all λi=>waits ops ops.size j i
def Hp(ops:Ao_)(listed:Array Bool):Bool:=
 (List.range ops.size).all λj=> !listed.getD j false || match ops[j]? with
  | some K=>K.after.all λe=> !Region.binds .any e || listed.getD e.on false
  | none=>true
theorem NT{listed:Array Bool}(h:Hp ops listed=true){j:Nat}{K:Oper}(O:ops[j]? =some K)(U:listed.getD j false=true):∀e∈K.after,Region.binds .any e=true->listed.getD e.on false=true:=by
 intro e he hb;have:=List.all_eq_true.1 h j (List.mem_range.2 (Array.getElem?_eq_some_iff.1 O).1);rw [U,O] at this;simp only [Bool.not_true,Bool.false_or] at this;have:=Array.all_eq_true'.1 this e he;rw [hb] at this;simpa using this
theorem PO{listed:Array Bool}(Y:Hp ops listed=true){i:Nat}:∀(f j:Nat) (O:Oper),ops[j]? =some O->(∀e∈O.after,Region.binds .any e=true->listed.getD e.on false=true)->waits ops f j i=true->listed.getD i false=true∨∃x,ops[x]? =none/\listed.getD x false=true:=by
 intro f
 induction f with
 | zero=>intro j O _ _ h;cases h
 | succ f Z=>
  intro j O aa hd h;simp only [waits,aa] at h;obtain⟨e,he,K⟩:=Array.any_eq_true'.1 h;simp only [Bool.and_eq_true,Bool.or_eq_true,beq_iff_eq] at K;obtain⟨hb,K⟩:=K;have U:=hd e he hb;rcases K with rfl | K
  ·exact .inl U
  ·cases V:ops[e.on]? with
   | none=>exact .inr ⟨_,V,U⟩
   | some o=>exact Z e.on o V (λab ac ae=>NT Y V U ab ac ae) K
theorem JA.take{i:Nat}{oi:Oper}{w:Bool}{v:Value}(hi:ops[i]? =some oi)(aS:i<m)(aT:DU ops m=true)(aU:Region.noSelect ops=true)(aV:∀c,oi.op≠ .defer c):
  ∀(fuel:Nat) (listed:Array Bool) (T:Av_) (s:St),Ip ops listed i oi=true->Hp ops listed=true->listed.size=ops.size->i∈Region.ready .any ops listed->s.q=false->Region.wanted oi (yielded ops T)=w->
   (w=true->∀s',s'.q=false->(∀x o,(Bx D s).E x=some o->s'.E x=some o)->Yl P oi (By T) s' v)->
   JA J Q b ds ops k cs m D fuel (Ba listed i) (CM T oi.dst (if w then v else undef)) s->JA J Q b ds ops k cs m D (fuel+1) listed T s:=by
 have ah:∀(j:Nat) (aa:Oper),ops[j]? =some aa->∀cs b,aa.op≠Op.select cs b:=λj aa h cs b=>Region.noSelect_spec aU j aa cs b h;intro fuel
 induction fuel with
 | zero=>?_
 | succ fuel am=>?_
 all_goals
  intro listed T s aH aI ai an ao hw aj h;refine .inr ⟨λe=>(by rw [e] at an;cases an),ao,λj aJ aa O=>?_⟩;by_cases ag:j=i
  ·subst ag;obtain rfl:aa=oi:=by rw [hi] at O;exact(Option.some.inj O).symm
   refine⟨aV,λaz=>?_,λaA=>?_⟩
   ·rw [az] at hw;subst hw;exact h
   ·rw [aA] at hw;subst hw;refine Ej _ (aj rfl (Bx D s) ao λ_ _ h=>h).out ?_ (λ_ _ h=>h);rintro aK s' ⟨rfl,rfl⟩;rw [Kq];exact h
  ·
   have aL:j∈Region.ready .any ops (Ba listed i):=ready_mono aJ ag;obtain⟨ab,U,aM,aB⟩:=mem_ready.1 aJ;obtain rfl:U=aa:=by rw [O] at aM;exact(Option.some.inj aM).symm
   have aC:=(mem_ready.1 an).1;have aW:(U.after.any λe=>Region.binds .any e&&e.on==i)=false:=by
    rw [Array.any_eq_false];intro e he K;simp only [Bool.and_eq_true,beq_iff_eq] at K;have:=aB _ (Array.getElem_mem he) K.1;rw [K.2] at this;have V:listed.getD i true=listed.getD i false∨listed.size<=i:=by
     rcases Nat.lt_or_ge i listed.size with q | q
     ·left;simp [Array.getD_eq_getD_getElem?,q]
     ·exact .inr q
    rcases V with V | V
    ·rw [aC,this] at V;cases V
    ·rw [Array.getD_eq_getD_getElem?,Array.getElem?_eq_none V] at this;simp at this
   have aX:oi.apart ops U=true:=by
    have ak:j<ops.size:=(Array.getElem?_eq_some_iff.1 O).1;have:=List.all_eq_true.1 aH j (List.mem_range.2 ak);simp only [Bool.or_eq_true,beq_iff_eq] at this;rcases this with(q | q) | q
    ·exact absurd q ag
    ·rw [ab] at q;cases q
    ·rw [O] at q;simp only [Bool.or_eq_true] at q;rw [aW] at q;exact q.resolve_left (by simp)
   obtain⟨a1,ap,aq⟩:=Oper.apart_spec aX;obtain⟨aY,p2⟩:=HL (ops:=ops) (T:=T) (v:=if w then v else undef) (ah j U O) a1
   first
    | exact absurd aL (by rw [h.1];simp)
    | (
     rcases h with⟨aZ,_⟩ | ⟨bd,_,h⟩
     ·
      exfalso
      have a0:¬j<m:=by
       intro ak
       have:=List.all_eq_true.1 aZ j (List.mem_range.2 ak)
       have e2:(Ba listed i).getD j false=listed.getD j false:=getD_set_ne false (Ne.symm ag)
       rw [e2] at this
       have V:listed.getD j true=true:=by
        rcases Nat.lt_or_ge j listed.size with q | q
        ·simp [Array.getD_eq_getD_getElem?,q] at this ⊢;exact this
        ·simp [Array.getD_eq_getD_getElem?,Array.getElem?_eq_none q] at this
       rw [ab] at V;cases V
      have ak:j<ops.size:=(Array.getElem?_eq_some_iff.1 O).1
      have:=List.all_eq_true.1 aT j (List.mem_range.2 ak)
      simp only [Bool.or_eq_true,decide_eq_true_eq] at this
      have:=List.all_eq_true.1 (this.resolve_left a0) i (List.mem_range.2 aS)
      rcases PO aI _ j U O (λe he hb=>aB e he hb) this with q | ⟨x,Y,Z⟩
      ·have a2:i<listed.size:=by rw [ai];exact(Array.getElem?_eq_some_iff.1 hi).1
       simp [Array.getD_eq_getD_getElem?,a2] at q aC
       rw [aC] at q;cases q
      ·have:¬x<listed.size:=by rw [ai];intro K;simp [K] at Y
       simp [Array.getD_eq_getD_getElem?,this] at Z
     ·obtain⟨hd,az,aA⟩:=h j aL U O
      have ar:Ba (Ba listed i) j=Ba (Ba listed j) i:=by
       unfold Ba;exact Array.setIfInBounds_comm _ _ (Ne.symm ag)
      have au:i∈Region.ready .any ops (Ba listed j):=ready_mono an (Ne.symm ag)
      have av:Ip ops (Ba listed j) i oi=true:=by
       refine List.all_eq_true.2 λx K=>?_
       have:=List.all_eq_true.1 aH x K
       simp only [Bool.or_eq_true,beq_iff_eq] at this ⊢
       rcases this with(q | q) | q
       ·exact .inl (.inl q)
       ·left;right
        by_cases e:j=x
        ·subst e;rw [ab] at q;cases q
        ·rw [Ba,getD_set_ne true e];exact q
       ·exact .inr q
      have aw:(Ba listed j).size=ops.size:=by unfold Ba;simpa using ai
      have ay:Hp ops (Ba listed j)=true:=by
       refine List.all_eq_true.2 λx K=>?_
       cases aD:ops[x]? with
       | none=>simp
       | some a3=>
        simp only [Bool.or_eq_true,Bool.not_eq_true']
        by_cases e:j=x
        ·subst e
         obtain rfl:a3=U:=by rw [O] at aD;exact(Option.some.inj aD).symm
         right
         refine Array.all_eq_true'.2 λe he=>?_
         cases hb:Region.binds .any e with
         | false=>simp
         | true=>
          have:=aB e he hb
          by_cases e2:j=e.on
          ·rw [← e2] at this
           have aE:j<listed.size:=by rw [ai];exact(Array.getElem?_eq_some_iff.1 O).1
           simp [Array.getD_eq_getD_getElem?,aE] at this ab
           rw [ab] at this;cases this
          ·rw [Ba,getD_set_ne false e2];simpa using this
        ·cases aN:(Ba listed j).getD x false with
         | false=>exact .inl rfl
         | true=>
          right
          have a4:listed.getD x false=true:=by rw [Ba,getD_set_ne false e] at aN;exact aN
          refine Array.all_eq_true'.2 λaF he=>?_
          cases hb:Region.binds .any aF with
          | false=>simp
          | true=>
           have:=NT aI aD a4 aF he hb
           by_cases e2:j=aF.on
           ·rw [← e2] at this
            have aE:j<listed.size:=by rw [ai];exact(Array.getElem?_eq_some_iff.1 O).1
            simp [Array.getD_eq_getD_getElem?,aE] at this ab
            rw [ab] at this;cases this
           ·rw [Ba,getD_set_ne false e2];simpa using this
      refine⟨hd,λa5=>?_,λa6=>?_⟩
      ·have:=az (by rw [p2];exact a5)
       rw [ar,IH ap] at this
       obtain⟨Y,Z⟩:=HL (ops:=ops) (T:=T) (d:=U.dst) (v:=undef) (o:=oi) (ah i oi hi) aq
       exact am _ _ _ av ay aw au ao (by rw [Z];exact hw) (λac s' a7 aG=>by unfold Yl;rw [Y];exact(aj ac s' a7 aG).out) this
      ·have aO:=Nr _ (aA (by rw [p2];exact a6))
       rw [aY] at aO
       refine Ej _ aO ?_ (λ_ _ h=>h)
       rintro aK s' ⟨K,aG,a8⟩
       have aP:=PZ (D:=D) aG
       have aQ:(Cy D s s').q=false:=by show s'.q=false;rw [a8];exact ao
       cases aK with
       | value u=>
        simp only at K ⊢
        rw [ar,IH ap] at K
        obtain⟨Y,Z⟩:=HL (ops:=ops) (T:=T) (d:=U.dst) (v:=u) (o:=oi) (ah i oi hi) aq
        exact am _ _ _ av ay aw au aQ (by rw [Z];exact hw) (λac s2 al ae=>by unfold Yl;rw [Y];exact(aj ac s2 al (by rw [aP] at ae;exact ae)).out) K
       | skip=>
        simp only at K ⊢
        rw [ar,IH ap] at K
        obtain⟨Y,Z⟩:=HL (ops:=ops) (T:=T) (d:=U.dst) (v:=undef) (o:=oi) (ah i oi hi) aq
        exact am _ _ _ av ay aw au aQ (by rw [Z];exact hw) (λac s2 al ae=>by unfold Yl;rw [Y];exact(aj ac s2 al (by rw [aP] at ae;exact ae)).out) K
       | enter f args=>
        obtain⟨R,a9,ba⟩:=K
        refine⟨R,a9,λu bb hu=>?_⟩
        obtain⟨aR,r1,r2⟩:=ba u bb hu
        refine⟨aR,r1,?_⟩
        rw [ar,IH ap] at r2
        obtain⟨Y,Z⟩:=HL (ops:=ops) (T:=T) (d:=U.dst) (v:=u) (o:=oi) (ah i oi hi) aq
        exact am _ _ _ av ay aw au aR (by rw [Z];exact hw) (λac s2 al ae=>by unfold Yl;rw [Y];exact(aj ac s2 al (λx o K=>ae x o (r1 x o K))).out) r2
       | _=>exact K.elim)
end
end Pal
namespace Pal
open Go Go.Conc
section
variable {P:Program}(J:Judge P)(Q:Gs_)(b:Frame)(n:Nat)(ds:Ld_)(ops:Ao_)(k:Li_)(cs:Lf_)(m:Nat)(D:Nat->Bool)
def AL(fuel:Nat)(listed:Array Bool)(L:Env)(s:St):Prop:=∀T,Has n L T->JA J Q b ds ops k cs m D fuel listed T s
end
def CL:Nat->Bool:=λ_=>false
section
variable {P:Program}{J:Judge P}{Q:Gs_}{b:Frame}{n:Nat}{ds:Ld_}{ops:Ao_}{k:Li_}{cs:Lf_}{m fuel:Nat}{D:Nat->Bool}{listed:Array Bool}{L:Env}{s:St}
theorem Om(m:Nat)(D:Nat->Bool){id:Nat}(K:s.q=false)(hm:P.follows .mixedOrders=true)(O:(b.kind != .early)=true)(h:AL J Q b n ds ops k cs m D ops.size (Array.replicate ops.size false) L s):JL J Q b n L ds (.code (.region id ops true)::k) cs s:=
 Ry K hm λt T U=>Vu (by simpa using O) ops.size t _ T s (h T U)
theorem Us{i:Nat}{oi:Oper}{v:Value}(hi:ops[i]? =some oi)(U:decide (i<m)=true)(V:DU ops m=true)(Y:Region.noSelect ops=true)(O:(!DK oi.op)=true)(Z:Ip ops listed i oi=true)(aa:Hp ops listed=true)(ab:(listed.size==ops.size)=true)(ac:(Region.ready .any ops listed).contains i=true)(ae:s.q=false)
  (hw:AT L ops oi=some true) (ag:Bh n oi.dst=true) (ah:∀ρ,EP L ρ->∀s',s'.q=false->(∀x o,(Bx D s).E x=some o->s'.E x=some o)->Yl P oi ρ s' v)
  (h:AL J Q b n ds ops k cs m D fuel (Ba listed i) (Ax L oi.dst v) s):AL J Q b n ds ops k cs m D (fuel+1) listed L s:=λT K=>by
 refine JA.take (w:=true) (v:=v) hi (by simpa using U) V Y (λc ai=>by rw [ai] at O;simp [DK] at O) fuel listed T s Z aa (by simpa using ab) (by simpa using ac) ae (Cb K hw) (λ_ s' aj ak=>ah _ K.FW s' aj ak) ?_
 exact h _ (K.put ag v)
theorem Un{i:Nat}{oi:Oper}(hi:ops[i]? =some oi)(U:decide (i<m)=true)(V:DU ops m=true)(Y:Region.noSelect ops=true)(K:(!DK oi.op)=true)(Z:Ip ops listed i oi=true)(aa:Hp ops listed=true)(ab:(listed.size==ops.size)=true)(ac:(Region.ready .any ops listed).contains i=true)(ae:s.q=false)
  (hw:AT L ops oi=some false) (ag:Bh n oi.dst=true)
  (h:AL J Q b n ds ops k cs m D fuel (Ba listed i) (Ax L oi.dst undef) s):AL J Q b n ds ops k cs m D (fuel+1) listed L s:=λT O=>by
 refine JA.take (w:=false) (v:=undef) hi (by simpa using U) V Y (λc ah=>by rw [ah] at K;simp [DK] at K) fuel listed T s Z aa (by simpa using ab) (by simpa using ac) ae (Cb O hw) (λe=>by cases e) ?_
 exact h _ (O.put ag undef)
theorem QN(ab:s.q=false)(ac:Region.ready .any ops listed≠ [])
  (h:∀i∈Region.ready .any ops listed,∀o,ops[i]? =some o->(!DK o.op)=true/\Bh n o.dst=true/\∃w,AT L ops o=some w/\
   (w=false->AL J Q b n ds ops k cs m D fuel (Ba listed i) (Ax L o.dst undef) s)/\
   (w=true->∀ρ,EP L ρ->lp P (execOp ρ o) (Bx D s) (λZ s'=>match Z with
    | .value v=>AL J Q b n ds ops k cs m D fuel (Ba listed i) (Ax L o.dst v) (Cy D s s')
    | .skip=>AL J Q b n ds ops k cs m D fuel (Ba listed i) (Ax L o.dst undef) (Cy D s s')
    | .enter f args=>∃R,EH J f args (Cy D s s') R/\∀v K,R v K->K.q=false/\(∀x o,(Bx D s).E x=some o->(Bx D K).E x=some o)/\AL J Q b n ds ops k cs m D fuel (Ba listed i) (Ax L o.dst v) K
    | _=>False) (λ_ _=>False))):
  AL J Q b n ds ops k cs m D (fuel+1) listed L s:=λT O=>by
 refine .inr ⟨ac,ab,λi hi o ae=>?_⟩
 obtain⟨aa,U,w,hw,ag,ah⟩:=h i hi o ae
 have V:=Cb O hw
 refine⟨λc ai=>by rw [ai] at aa;simp [DK] at aa,λe=>?_,λe=>?_⟩
 ·rw [e] at V
  exact ag V.symm _ (O.put U undef)
 ·rw [e] at V;refine Ej _ (ah V.symm _ O.FW) ?_ (λ_ _ h=>h);intro Z s' Y;cases Z with
  | value v=>exact Y _ (O.put U v)
  | skip=>exact Y _ (O.put U undef)
  | enter f args=>
   obtain⟨R,aj,ak⟩:=Y;exact⟨R,aj,λv K al=>let ⟨a,b,c⟩:=ak v K al;⟨a,b,c _ (O.put U v)⟩⟩
  | _=>exact Y.elim
theorem AL.one{i:Nat}{o:Oper}(Z:s.q=false)(V:Region.ready .any ops listed= [i])(hi:ops[i]? =some o)(O:(!DK o.op&&Bh n o.dst)=true)(hw:AT L ops o=some true)
  (h:∀ρ,EP L ρ->lp P (execOp ρ o) (Bx D s) (λaa s'=>match aa with
    | .value v=>AL J Q b n ds ops k cs m D fuel (Ba listed i) (Ax L o.dst v) (Cy D s s')
    | .skip=>AL J Q b n ds ops k cs m D fuel (Ba listed i) (Ax L o.dst undef) (Cy D s s')
    | .enter f args=>∃R,EH J f args (Cy D s s') R/\∀v K,R v K->K.q=false/\(∀x o,(Bx D s).E x=some o->(Bx D K).E x=some o)/\AL J Q b n ds ops k cs m D fuel (Ba listed i) (Ax L o.dst v) K
    | _=>False) (λ_ _=>False)):
  AL J Q b n ds ops k cs m D (fuel+1) listed L s:=by
 simp only [Bool.and_eq_true] at O;refine QN Z (by rw [V];simp) λj U o' Y=>?_;rw [V] at U;simp at U;subst U;obtain rfl:o'=o:=by rw [hi] at Y;exact(Option.some.inj Y).symm
 exact⟨O.1,O.2,true,hw,λe=>(by cases e),λ_=>h⟩
theorem AL.call{i:Nat}{d:Option Tmp}{f:FuncId}{args:Array Operand}{ats:Array TypeId}{ty:TypeId}{p:String}{af:Ae_}{g:On_}{vs:Lv_}{R:Value->St->Prop}(U:s.q=false)(V:Region.ready .any ops listed= [i])
  (Y:ops[i]? =some ⟨d,.call ⟨.value (.func f),args,ats⟩,ty,p,af,g⟩) (Z:Bh n d=true) (hw:AT L ops ⟨d,.call ⟨.value (.func f),args,ats⟩,ty,p,af,g⟩=some true) (hb:DI P f=true) (aa:evs L args.toList=some vs)
  (ab:EH J f vs.toArray s R) (h:∀v K,R v K->K.q=false/\(∀x o,(Bx D s).E x=some o->(Bx D K).E x=some o)/\AL J Q b n ds ops k cs m D fuel (Ba listed i) (Ax L d v) K):
  AL J Q b n ds ops k cs m D (fuel+1) listed L s:=by
 refine AL.one U V Y (by simp [DK,Z]) hw λρ O=>?_;have ac:args.map ρ=vs.toArray:=by
  rw [← Gd O aa];apply Array.ext';simp
 have ae:ρ (.func f)= .func (.func f) #[] #[]:=O _ _ rfl;simp only [execOp,resolve,bind,Sem.bind,Deferred.ofValue,ae,pure,invoke];have e: #[]++args.map ρ++ #[]=vs.toArray:=by rw [ac];simp
 rw [e];refine IF hb ?_;rw [Kq];exact⟨R,ab,h⟩
theorem AL.leaf{tail:List Nat}(K:Pe m listed=true)(hgo:∀t,Region.linearise.go .any ops (fuel+1) t listed []=tail)(h:JL J Q b n L ds (.inRegion ops tail::k) cs s):AL J Q b n ds ops k cs m D (fuel+1) listed L s:=λT O=>
 .inl ⟨K,λt=>by rw [hgo t];exact h T O⟩
theorem AL.fin(K:Region.ready .any ops listed= [])(h:JL J Q b n L ds k cs s):AL J Q b n ds ops k cs m D 0 listed L s:=λT O=>⟨K,JL.done h T O⟩
theorem Gy{listed:Array Bool}{i:Nat}{tail:List Nat}{fuel:Nat}(K:Region.ready .any ops listed= [i])(h:∀t,Region.linearise.go .any ops fuel t (Ba listed i) []=tail)(t:Nat):Region.linearise.go .any ops (fuel+1) t listed []=i::tail:=by
 simp only [Region.linearise.go];change (match(Region.ready .any ops listed)[t % (Region.ready .any ops listed).length]? with
  | some i=>Region.linearise.go .any ops fuel (t / (Region.ready .any ops listed).length) (listed.setIfInBounds i true) [i]
  | none=> [].reverse)=_
 rw [K];simp only [List.length_singleton,Nat.mod_one,List.getElem?_cons_zero];rw [linearise_go_acc];have:=h (t / 1);unfold Ba at this;rw [this];rfl
theorem IS{listed:Array Bool}(t:Nat):Region.linearise.go .any ops 0 t listed []= []:=rfl
theorem VQ{i:Nat}{rest:List Nat}{d:Option Tmp}{f:FuncId}{args:Array Operand}{ats:Array TypeId}{ty:TypeId}{p:String}{af:Ae_}{g:On_}{vs:Lv_}{R:Value->St->Prop}
  (U:ops[i]? =some ⟨d,.call ⟨.value (.func f),args,ats⟩,ty,p,af,g⟩) (hw:AT L ops ⟨d,.call ⟨.value (.func f),args,ats⟩,ty,p,af,g⟩=some true) (K:((b.kind != .early)&&Bh n d)=true) (hb:DI P f=true)
  (V:evs L args.toList=some vs) (Y:EH J f vs.toArray s R) (Z:∀v s',R v s'->JL J Q b n (Ax L d v) ds (.inRegion ops rest::k) cs s'):
  JL J Q b n L ds (.inRegion ops (i::rest)::k) cs s:=λT O=>by
 simp only [Bool.and_eq_true] at K
 have aa:args.map (By T)=vs.toArray:=by
  rw [← Gd O.FW V];apply Array.ext';simp
 refine Judge.oper U (Cb O hw) (by simpa using K.1) (.inr λc ab=>by cases ab) ?_;have hd:lp P (execOp (By T) ⟨d,.call ⟨.value (.func f),args,ats⟩,ty,p,af,g⟩) s (upon J Q b T ds ops i rest k cs d) (KW J Q b T ds ops i rest k cs):=by
  simp only [execOp,resolve,bind,Sem.bind,Deferred.ofValue,By,pure,invoke];have e: #[]++args.map (By T)++ #[]=vs.toArray:=by rw [aa];simp
  rw [e];refine IF hb (Y Q _ cs λv s' ac=>?_);rw [Gc (o:=⟨d,.call ⟨.value (.func f),args,ats⟩,ty,p,af,g⟩) _ _ _ _ _ U];exact Z v s' ac _ (O.put K.2 v)
 exact hd
theorem EH.enter{f:FuncId}{fn:Func}{c:Code}{vs:Lv_}{R:Value->St->Prop}(V:P.funcs[f]? =some fn)(hb:fn.body=some c)(ab:vs.length<=fn.ntmps)
  (h:∀(Q:Gs_) (K:Frame) (cs:Lf_),(∀v s',R v s'->J.ok Q (G (K.finish v) cs) s')->JL J Q (base f) fn.ntmps (FY 0 vs) [] [.code c] (K::cs) s):EH J f vs.toArray s R:=λQ K cs Y=>by
 have he:Frame.enter P f vs.toArray .normal=fr (base f) (vs.toArray++Array.replicate (fn.ntmps - vs.length) undef) [] [.code c]:=by
  simp [Frame.enter,fr,V,hb,base];rfl
 rw [he];refine h Q K cs Y _ ⟨by simp;omega,λt v Z=>?_⟩;obtain⟨_,O⟩:=I6 Z;have aa:t<vs.length:=by
  rcases Nat.lt_or_ge t vs.length with U | U
  ·exact U
  ·simp at O;have:=(List.getElem?_eq_some_iff.1 O).1;omega
 rw [Array.getD_eq_getD_getElem?,Array.getElem?_append_left (by simpa using aa)];simp at O;simp [O]
end
end Pal
namespace Pal
open Go Go.Conc
section
variable {P:Program}{J:Judge P}{Q:Gs_}{b:Frame}{n:Nat}{ds:Ld_}{ops:Ao_}{k:Li_}{cs:Lf_}{L:Env}{s:St}{E E' H:LH}{B B0:List (Nat×Obj)}
theorem RX(O:s.q=false)(h:(∃w,Fits s w)->JL J Q b n L ds k cs s):JL J Q b n L ds k cs s:=λT U=>by
 by_cases K:∃w,Fits s w
 ·exact h K T U
 ·exact J.step ⟨rfl,λw f=>absurd ⟨w,f⟩ K,λe=>by subst e;cases O⟩
theorem Qe{x:Nat}:∀{B:List (Nat×Obj)},(∃p∈B,p.1=x)->Bi B H x≠none
 | [],⟨p,K,_⟩=>by cases K
 | (c,o)::B,⟨p,K,e⟩=>by
  simp only [Bi]
  split
  ·simp
  ·rename_i O;rcases List.mem_cons.1 K with q | q
   ·subst q;exact absurd e.symm O
   ·exact Qe ⟨p,q,e⟩
theorem Nd.grow(U:Nd E H B)(hd:∀x,E' x≠none->Bi B H x=none):Nd E' H B:=by
 have key:∀{C:List (Nat×Obj)},Nd E H C->(∀p∈C,p∈B)->Nd E' H C:=by
  intro C
  induction C with
  | nil=>intro _ _;trivial
  | cons p C V=>
   obtain⟨c,o⟩:=p;intro hC O;refine⟨?_,hC.2.1,hC.2.2.1,V hC.2.2.2 λp K=>O p (List.mem_cons_of_mem _ K)⟩;cases Y:E' c with
   | none=>rfl
   | some u=>exact absurd (hd c (by rw [Y];simp)) (Qe ⟨(c,o),O _ (by simp),rfl⟩)
 exact key U λp K=>K
def Nv(E:LH)(K:Nat)(v:Value)(n:Nat)(xs:Lv_):Prop:=
 ∃a c,v= .slice a n c/\n<=c/\xs.length=n*K/\(n=0∨∃bk off f e fr,a=some ⟨bk,off,none⟩/\E bk=some (.cells f e fr)/\∀j w,xs[j]? =some w->f[off+j]? =some w)
theorem Nv.nil{K:Nat}:Nv E K (.slice none 0 0) 0 []:=⟨none,0,rfl,Nat.le_refl _,by simp,.inl rfl⟩
def GS(e:TypeId)(K:Nat)(a:Option Addr)(l c:Nat)(blk:List (Nat×Obj))(xs:Lv_):Prop:=
 (a=none/\l=0/\c=0/\blk= []/\xs= [])∨∃bk f,a=some ⟨bk,0,none⟩/\blk= [(bk,.cells f e (0,0))]/\f.size=c*K/\l<=c/\xs=f.toList.take (l*K)
theorem GS.nil{e:TypeId}{K:Nat}:GS e K none 0 0 [] []:= .inl ⟨rfl,rfl,rfl,rfl,rfl⟩
theorem GS.length{e:TypeId}{K:Nat}{a:Option Addr}{l c:Nat}{blk:List (Nat×Obj)}{xs:Lv_}(h:GS e K a l c blk xs):xs.length=l*K:=by
 rcases h with⟨_,rfl,_,_,rfl⟩ | ⟨bk,f,_,_,O,U,rfl⟩
 ·simp
 ·have:l*K<=c*K:=Nat.mul_le_mul_right _ U;simp [O,Nat.min_eq_left this]
theorem Ty{t e:TypeId}{v:Value}{Q:Value->St->Prop}{X:Halt->St->Prop}{z:Value}(O:P.underlying t=some (.slice e))(U:Bm P e=some v.cells.size)(V:zeroOf P e=some z)(ac:z.cells.size=v.cells.size)(ae:0<v.cells.size)(ag:v.cells.size<=64)
  (Y:Nd E H B) (k:∀r,Nd E H (B++ [(r,.cells v.cells e (0,0))])->Q (.slice (some ⟨r,0,none⟩) 1 1) (mk E H (B++ [(r,.cells v.cells e (0,0))]))):lp P (Instr.buildSlice t 1 #[(0,v)]) (mk E H B) Q X:=by
 unfold Instr.buildSlice;refine Av _ _ (Cp O ?_);refine Av _ _ (Ex U ?_);rw [if_neg (by omega),if_neg (by omega)];refine Av (x:=zeroValue e) _ (Hd V ?_);have Z:Instr.fill (λi=>some (i*v.cells.size,v.cells.size)) ((Array.range (1*v.cells.size)).map λi=>z.cells[i % z.cells.size]!) [(0,v)]=some v.cells:=by
  simp only [Instr.fill,Array.size_map,Array.size_range,Nat.one_mul,Nat.zero_mul];rw [if_neg (by simp)];congr 1;apply Array.ext_getElem?;intro j;have key:∀(l:Lv_) (st:Nat) (c:Av_),st+l.length<=c.size->∀j,(List.foldl (λcs (p:Value×Nat)=>cs.setIfInBounds (0+p.2) p.1) c (l.zipIdx st))[j]? =if st<=j/\j<st+l.length then l[j - st]? else c[j]? :=by
   intro l
   induction l with
   | nil=>intro st c _ j;simp;omega
   | cons x l aa=>
    intro st c ah j;simp only [List.zipIdx_cons,List.foldl_cons,List.length_cons] at*;rw [aa (st+1) _ (by simp;omega) j];simp only [Nat.zero_add];by_cases ab:j=st
    ·subst ab;rw [if_neg (by omega),if_pos (by omega)];rw [Nat.sub_self,List.getElem?_cons_zero,Array.getElem?_setIfInBounds_self_of_lt (by omega)]
    ·by_cases e2:st+1<=j/\j<st+1+l.length
     ·rw [if_pos e2,if_pos (by omega)];have:j - st=(j - (st+1))+1:=by omega
      rw [this];simp
     ·rw [if_neg e2,if_neg (by omega),Array.getElem?_setIfInBounds_ne (by omega)]
  have:=key v.cells.toList 0 ((Array.range v.cells.size).map λi=>z.cells[i % z.cells.size]!) (by simp) j;rw [← Array.foldl_toList,Array.toList_zipIdx,this];by_cases K:j<v.cells.size
  ·simp [K]
  ·simp [K]
 rw [HJ];simp only [Z];exact Av _ _ (Ih Y k)
end
end Pal
namespace Pal
open Go Go.Conc
section
variable {P:Program}{J:Judge P}{Q:Gs_}{b:Frame}{n:Nat}{ds:Ld_}{ops:Ao_}{k:Li_}{cs:Lf_}{L:Env}{s:St}{E E' H:LH}{B B0:List (Nat×Obj)}
theorem K9{ρ:Operand->Value}{d:Option Tmp}{x y:Operand}{ats:Array TypeId}{ty:TypeId}{p:String}{af:Ae_}{g:On_}:
  execOp ρ ⟨d,.call ⟨.builtin .append,#[x,y],ats⟩,ty,p,af,g⟩=(do pure (Next.value (← Builtin.append_ ats ty #[ρ x,ρ y]))):=by
 simp [execOp,resolve,invoke,builtin,bind,Sem.bind,pure]
theorem TE{ρ:Operand->Value}{d:Option Tmp}{y:Operand}{t ty:TypeId}{p:String}{af:Ae_}{g:On_}:
  execOp ρ ⟨d,.buildSlice t 1 #[(0,y)],ty,p,af,g⟩=(do pure (Next.value (← Instr.buildSlice t 1 #[(0,ρ y)]))):=by
 simp [execOp]
theorem XU{L:Env}{d1:Tmp}{w:Value}:ev (Ax L (some d1) w) (.tmp d1)=some w:=by
 simp [Ax,ev,look]
theorem Im{α:Type}(l r:List α)(x y:α):(l++x::r).set l.length y=l++y::r:=by simp
theorem JR{e t t1:TypeId}{V ag l c m:Nat}{a:Option Addr}{blk:List (Nat×Obj)}{xs ys:Lv_}{i:Nat}{rest:List Nat}{d:Option Tmp}{x y:Operand}{ats:Array TypeId}{ty:TypeId}{p:String}{af:Ae_}{g:On_}{z:Value}{ax:Option Addr}{cx:Nat}{B1:List (Nat×Obj)}
  (aq:ops[i]? =some ⟨d,.call ⟨.builtin .append,#[x,y],ats⟩,ty,p,af,g⟩) (hw:AT L ops ⟨d,.call ⟨.builtin .append,#[x,y],ats⟩,ty,p,af,g⟩=some true) (ar:BK b n ⟨d,.call ⟨.builtin .append,#[x,y],ats⟩,ty,p,af,g⟩=true)
  (au:ev L x=some (.slice a l c)) (av:ev L y=some (.slice ax m cx)) (aw:ats[0]? =some t) (ay:ats[1]? =some t1) (az:P.underlying t=some (.slice e)) (aA:P.underlying t1=some (.slice e)) (aB:Bm P e=some V) (hb:Fp P e=some ag) (aC:zeroOf P e=some z) (aD:z.cells.size=V)
  (aE:0<ag) (aF:ag<=64) (aP:0<m) (aG:l+m<=2 ^ 40) (aH:∀w∈ys,BT w=true) (ah:GS e V a l c blk xs) (aI:Nd E H (B0++blk++B1)) (aJ:Hq (mk E H (B0++blk++B1)) (.slice ax m cx) V ys)
  (h:∀ao aa ai,GS e V ao (l+m) aa ai (xs++ys)->Nd E H (B0++ai)->JL J Q b n (Ax L d (.slice ao (l+m) aa)) ds (.inRegion ops rest::k) cs (mk E H (B0++ai))):
  JL J Q b n L ds (.inRegion ops (i::rest)::k) cs (mk E H (B0++blk++B1)):=by
 refine JL.op aq hw ar λρ ap=>?_;rw [K9,ap x _ au,ap y _ av];have aK:M6 (B0++blk++B1) B0.length e V a l c xs:=by
  rcases ah with⟨O,Z,ab,aj,ac⟩ | ⟨bk,f,O,Z,ab,aj,ac⟩
  ·exact .inl ⟨O,Z,ab,ac⟩
  ·refine .inr ⟨bk,f,O,?_,ab,aj,ac⟩;subst Z;simp
 have hlen:=ah.length;refine Av _ _ (Oj (pl:=B0.length) aw ay aA az aB hb aC aD aI aK aJ aH aE aG aF ?_ ?_ ?_)
 ·
  intro bk f K ae aQ aR aL ak al Y;rcases ah with⟨O,_⟩ | ⟨U,f0,O,Z,ab,aj,ac⟩
  ·rw [O] at ae;cases ae
  ·subst Z;have aM:U=bk:=by rw [O] at ae;simpa using ae
   subst aM;have aN:(B0++ [(U,Obj.cells f0 e (0,0))]++B1).set B0.length (U,.cells K e (0,0))=B0++ [(U,.cells K e (0,0))]++B1:=by
    rw [List.append_assoc,List.append_assoc];exact Im _ _ _ _
   rw [aN] at Y ⊢;have am:Nd E H (B0++ [(U,.cells K e (0,0))]):=Nd.left Y;refine JL.drop (B0++ [(U,.cells K e (0,0))]) (λp an=>?_) Y (h a c _ (.inr ⟨U,K,O,rfl,ak,aL,al.symm⟩) am);exact List.mem_iff_getElem?.1 (List.mem_append_left _ an)
 ·intro _ hm;omega
 ·
  intro r K aa aO ak al Y;have am:Nd E H (B0++ [(r,.cells K e (0,0))]):=Nd.pick Y;refine JL.drop (B0++ [(r,.cells K e (0,0))]) (λp an=>?_) Y (h (some ⟨r,0,none⟩) aa _ (.inr ⟨r,K,rfl,rfl,ak,aO,al.symm⟩) am);refine List.mem_iff_getElem?.1 ?_;rcases List.mem_append.1 an with q | q
  ·simp [q]
  ·exact List.mem_append_right _ q
 where
  Nd.left {E H : LH} {A C : List (Nat × Obj)} (h : Nd E H (A ++ C)) : Nd E H A := by
    induction A with
    | nil => trivial
    | cons p A ih =>
      obtain ⟨c, o⟩ := p
      obtain ⟨h1, h2, h3, h4⟩ := h
      exact ⟨h1, h2, λq hq => h3 q (List.mem_append_left _ hq), ih h4⟩
  Nd.pick {E H : LH} {A C F : List (Nat × Obj)} {x : Nat × Obj} (h : Nd E H (A ++ C ++ F ++ [x])) : Nd E H (A ++ [x]) := by
    induction A with
    | nil =>
      have : ∀ (D : List (Nat × Obj)), Nd E H (D ++ [x]) -> Nd E H [x] := by
        intro D
        induction D with
        | nil => exact λh => h
        | cons p D ih => obtain ⟨c, o⟩ := p; exact λh => ih h.2.2.2
      exact this _ h
    | cons p A ih =>
      obtain ⟨c, o⟩ := p
      obtain ⟨h1, h2, h3, h4⟩ := h
      refine ⟨h1, h2, λq hq => h3 q ?_, ih h4⟩
      rcases List.mem_append.1 hq with hq | hq
      . simp [hq]
      . exact List.mem_append_right _ hq
theorem UT{K r:Nat}{e:TypeId}{v:Value}{A:List (Nat×Obj)}(O:v.cells.size=K)(U:Nd E H (A++ [(r,.cells v.cells e (0,0))])):
  Hq (mk E H (A++ [(r,.cells v.cells e (0,0))])) (.slice (some ⟨r,0,none⟩) 1 1) K v.cells.toList:=by
 refine⟨.inl rfl,by simp [O],Nat.le_refl _,λj w V=>?_⟩;simp only [Nat.zero_add];refine QF (i:=A.length) U (c:=v.cells) (e:=e) (f:=(0,0)) (by simp) ?_;simpa using V
theorem T8{e t t1 t2:TypeId}{K O l c:Nat}{a:Option Addr}{blk:List (Nat×Obj)}{xs:Lv_}{i ab:Nat}{rest:List Nat}{d1:Tmp}{d:Option Tmp}{x y:Operand}{ats:Array TypeId}{ty U:TypeId}{p V:String}{af Y:Ae_}{g g':On_}{z v:Value}
  (ak:ops[i]? =some ⟨some d1,.buildSlice t2 1 #[(0,y)],U,V,Y,g'⟩) (hw:AT L ops ⟨some d1,.buildSlice t2 1 #[(0,y)],U,V,Y,g'⟩=some true) (al:BK b n ⟨some d1,.buildSlice t2 1 #[(0,y)],U,V,Y,g'⟩=true)
  (am:ops[ab]? =some ⟨d,.call ⟨.builtin .append,#[x,.tmp d1],ats⟩,ty,p,af,g⟩) (an:∀w,AT (Ax L (some d1) w) ops ⟨d,.call ⟨.builtin .append,#[x,.tmp d1],ats⟩,ty,p,af,g⟩=some true) (ao:BK b n ⟨d,.call ⟨.builtin .append,#[x,.tmp d1],ats⟩,ty,p,af,g⟩=true)
  (ap:∀w,ev (Ax L (some d1) w) x=some (.slice a l c)) (aq:ev L y=some v) (ar:ats[0]? =some t) (au:ats[1]? =some t1) (av:P.underlying t=some (.slice e)) (aw:P.underlying t1=some (.slice e)) (ay:P.underlying t2=some (.slice e)) (ac:Bm P e=some K) (hb:Fp P e=some O) (ae:zeroOf P e=some z) (ag:z.cells.size=K)
  (az:0<O) (aA:O<=64) (Z:v.cells.size=K) (aG:0<K) (aH:K<=64) (aB:l+1<=2 ^ 40) (aC:∀w∈v.cells.toList,BT w=true) (aD:GS e K a l c blk xs) (aE:Nd E H (B0++blk))
  (h:∀w ah ai aa,GS e K ah (l+1) ai aa (xs++v.cells.toList)->Nd E H (B0++aa)->JL J Q b n (Ax (Ax L (some d1) w) d (.slice ah (l+1) ai)) ds (.inRegion ops rest::k) cs (mk E H (B0++aa))):
  JL J Q b n L ds (.inRegion ops (i::ab::rest)::k) cs (mk E H (B0++blk)):=by
 refine JL.op ak hw al λρ aF=>?_;rw [TE,aF y _ aq];refine Av _ _ (Ty (z:=z) (v:=v) ay (by rw [Z];exact ac) ae (by rw [Z];exact ag) (by omega) (by omega) aE λr aj=>?_);refine JR (B1:= [(r,.cells v.cells e (0,0))]) (m:=1) (cx:=1) (ax:=some ⟨r,0,none⟩) (y:= .tmp d1) (x:=x) (ys:=v.cells.toList) (l:=l) (c:=c) (a:=a) (blk:=blk) (xs:=xs) am (an _) ao (ap _) XU ar au av aw ac hb ae ag az aA (by omega) aB aC aD aj ?_ (h _);exact UT Z aj
theorem TS{e:TypeId}{K l c:Nat}{a:Option Addr}{blk:List (Nat×Obj)}{xs:Lv_}{todo:Li_}(Z:GS e K a l c blk xs)(U:Nd E H (B0++blk))
  (h:∀E',Le E E'->Nv E' K (.slice a l c) l xs->Nd E' H B0->JL J Q b n L ds todo cs (mk E' H B0)):JL J Q b n L ds todo cs (mk E H (B0++blk)):=by
 rcases Z with⟨rfl,rfl,rfl,rfl,rfl⟩ | ⟨bk,f,rfl,rfl,aa,V,rfl⟩
 ·simp only [List.append_nil] at U ⊢;exact h E (Le.refl _) .nil U
 ·have ab:(B0++ [(bk,Obj.cells f e (0,0))])[B0.length]? =some (bk,Obj.cells f e (0,0)):=by simp
  refine JL.freeze B0.length U ab λE' hle ac Y=>?_;have ae:(B0++ [(bk,Obj.cells f e (0,0))]).eraseIdx B0.length=B0:=by rw [List.eraseIdx_append_of_length_le (Nat.le_refl _)];simp
  rw [ae] at Y ⊢;refine h E' hle ⟨_,c,rfl,V,?_,.inr ⟨bk,0,f,e,(0,0),rfl,ac,λj w O=>?_⟩⟩ Y
  ·have:l*K<=c*K:=Nat.mul_le_mul_right _ V;simp [aa,Nat.min_eq_left this]
  ·rw [List.getElem?_take] at O;split at O
   ·simpa using O
   ·cases O
end
end Pal
namespace Pal
open Go Go.Conc
abbrev iV(n:Int):Value:= .int .i64 n
section
variable {P:Program}{s:St}{ρ:Operand->Value}{d:Option Tmp}{t u ty:TypeId}{x y:Operand}{p:String}{af:Ae_}{g:On_}{a c:Nat}
end
theorem Oy{P:Program}{t:TypeId}{K:TypeInfo}(h:P.types[t]? =some K):P.info? t=some K:=by
 have:=(Array.getElem?_eq_some_iff.1 h).1;unfold Tables.info?;rw [if_pos this,h]
theorem AU{P:Program}{t:TypeId}{K:TypeInfo}(h:P.types[t]? =some K):Bm P t=some K.size:=by simp [Bm,Oy h]
theorem B4{P:Program}{t:TypeId}{K:TypeInfo}(h:P.types[t]? =some K):Fp P t=some K.bytes:=by simp [Fp,Oy h]
theorem Dw{P:Program}{t:TypeId}{K:TypeInfo}(h:P.types[t]? =some K):zeroOf P t=K.zero:=by simp [zeroOf,Oy h]
def Xi:TypeDesc->Bool | .struct _=>true | .array _ _=>true | _=>false
theorem C5{P:Program}{t:TypeId}{d:TypeDesc}(h:P.underlying t=some d):Dm P t=some (Xi d):=by
 unfold Dm;rw [h];cases d <;> rfl
theorem A5{P:Program}{f:FuncId}{fn:Func}(h:P.funcs[f]? =some fn)(hb:(!(fn.name== "runtime.NumGoroutine")&&fn.body.isSome)=true):DI P f=true:=by
 simp only [DI,h];exact hb
def R8(a:Nat):Nat->List Nat
 | 0=> []
 | n+1=>R8 a n++(if a.testBit n then [n] else [])
abbrev Nq(a:Nat):List Nat:=R8 a 16
end Pal
namespace Pal
end Pal
namespace Pal
open Go Go.Conc
end Pal
namespace Pal
open Go Go.Conc
def At(E:LH)(bk o:Nat)(ws:Lv_):Prop:=∃f e fr,E bk=some (.cells f e fr)/\∀j w,ws[j]? =some w->f[o+j]? =some w
theorem At.Ag{E E':LH}{bk o:Nat}{ws:Lv_}(h:At E bk o ws)(hle:Le E E'):At E' bk o ws:=let ⟨f,e,fr,K,O⟩:=h;⟨f,e,fr,hle _ _ K,O⟩
theorem At.cell{E H:LH}{B:List (Nat×Obj)}{bk o j:Nat}{ws:Lv_}{w:Value}(h:At E bk o ws)(K:ws[j]? =some w):(mk E H B).cell? ⟨bk,o+j,none⟩=some w:=
 let ⟨_,_,_,O,U⟩:=h;UG O (U j w K)
theorem At.cells{E H:LH}{B:List (Nat×Obj)}{bk o:Nat}{ws:Lv_}(h:At E bk o ws):∀j v,ws[j]? =some v->(mk E H B).cell? (Addr.add ⟨bk,o,none⟩ j)=some v:=λj v K=>by
 rw [DR rfl];exact h.cell K
section
variable {P:Program}{J:Judge P}{Q:Gs_}{b:Frame}{n:Nat}{ds:Ld_}{ops:Ao_}{k:Li_}{cs:Lf_}{L:Env}{s:St}{E E' H:LH}{B B0:List (Nat×Obj)}
variable {d:Option Tmp}{x y:Operand}{t u ty e:TypeId}{p:String}{af:Ae_}{g:On_}{v:Value}{i:Nat}{rest:List Nat}{kd:IntKind}
theorem JL.put(h:look L i=some v)(O:JL J Q b n (Ax L (some i) v) ds k cs s):JL J Q b n L ds k cs s:=λT K=>
 O T ⟨K.size,λt w e=>by
  simp only [Ax,look] at e
  split at e
  ·rename_i U;subst U;cases e;exact K.at_ _ _ h
  ·exact K.at_ _ _ e⟩
theorem JY{q:Prop} [Decidable q] (h:look L i=some (.bool (decide q)))(O:q->JL J Q b n (Ax L (some i) (.bool true)) ds k cs s)(U:¬q->JL J Q b n (Ax L (some i) (.bool false)) ds k cs s):JL J Q b n L ds k cs s:=by
 by_cases K:q
 ·refine JL.put (i:=i) (v:= .bool true) ?_ (O K);rw [h,decide_eq_true K]
 ·refine JL.put (i:=i) (v:= .bool false) ?_ (U K);rw [h,decide_eq_false K]
theorem I9{c:Bool}(h:look L i=some (.bool c))(K:c=true->JL J Q b n (Ax L (some i) (.bool true)) ds k cs s)(O:c=false->JL J Q b n (Ax L (some i) (.bool false)) ds k cs s):JL J Q b n L ds k cs s:=by
 cases c
 ·exact JL.put h (O rfl)
 ·exact JL.put h (K rfl)
end
end Pal
namespace Pal
open Go Go.Conc
theorem BE{P:Program}{s:St}{ρ:Operand->Value}{d:Option Tmp}{t ty ft:TypeId}{x:Operand}{p:String}{af:Ae_}{g:On_}{a:Addr}{O:Array Field}{i:Nat}{K:Field}(U off:Nat)(V:P.underlying t=some (.struct O))(Y:Bm P ft=some (U+1))(hi:O[i]? =some K)(Z:K.type=ft)(aa:K.offset=off)(ab:ρ x= .pointer (some a)):
  Yl P ⟨d,.fieldAddr t x i,ty,p,af,g⟩ ρ s (.pointer (some (a.add off))):=by
 subst Z aa;exact Yl.fieldAddr V hi Y ab
end Pal
namespace Pal
open Go Go.Conc
section
variable {P:Program}{J:Judge P}{Q:Gs_}{b:Frame}{n:Nat}{ds:Ld_}{ops:Ao_}{k:Li_}{cs:Lf_}{L:Env}{s:St}{E E' H:LH}{B B0:List (Nat×Obj)}
variable {d:Option Tmp}{x y:Operand}{t u ty e:TypeId}{p:String}{af:Ae_}{g:On_}{v:Value}{i:Nat}{rest:List Nat}{kd:IntKind}
theorem At.HU{bk o j:Nat}{ws:Lv_}{w:Value}(h:At E bk o ws)(K:∀x o,E x=some o->s.E x=some o)(O:ws[j]? =some w):s.cell? ⟨bk,o+j,none⟩=some w:=by
 obtain⟨f,e,fr,U,V⟩:=h;unfold St.cell? St.get;rw [K _ _ U];exact V j w O
theorem At.KL{bk o:Nat}{ws:Lv_}(h:At E bk o ws)(K:∀x o,E x=some o->s.E x=some o):∀j v,ws[j]? =some v->s.cell? (Addr.add ⟨bk,o,none⟩ j)=some v:=λj v O=>by
 rw [DR rfl];exact h.HU K O
end
section
variable {P:Program}{J:Judge P}{Q:Gs_}{b:Frame}{n:Nat}{ds:Ld_}{ops:Ao_}{k:Li_}{cs:Lf_}{m fuel:Nat}{listed:Array Bool}{L:Env}{E H:LH}{B:List (Nat×Obj)}
variable {d:Option Tmp}{x y:Operand}{t u ty e:TypeId}{p:String}{af:Ae_}{g:On_}{v:Value}{i:Nat}{kd:IntKind}
end
end Pal
namespace Pal
open Go Go.Conc
section
variable {P:Program}{J:Judge P}{Q:Gs_}{b:Frame}{n:Nat}{ds:Ld_}{ops:Ao_}{k:Li_}{cs:Lf_}{m fuel:Nat}{D:Nat->Bool}{listed:Array Bool}{L:Env}{s:St}{i:Nat}{v:Value}
theorem AL.put(h:look L i=some v)(O:AL J Q b n ds ops k cs m D fuel listed (Ax L (some i) v) s):AL J Q b n ds ops k cs m D fuel listed L s:=λT K=>
 O T ⟨K.size,λt w e=>by
  simp only [Ax,look] at e
  split at e
  ·rename_i U;subst U;cases e;exact K.at_ _ _ h
  ·exact K.at_ _ _ e⟩
theorem EN{q:Prop} [Decidable q] (h:look L i=some (.bool (decide q)))(O:q->AL J Q b n ds ops k cs m D fuel listed (Ax L (some i) (.bool true)) s)(U:¬q->AL J Q b n ds ops k cs m D fuel listed (Ax L (some i) (.bool false)) s):AL J Q b n ds ops k cs m D fuel listed L s:=by
 by_cases K:q
 ·refine AL.put (i:=i) (v:= .bool true) ?_ (O K);rw [h,decide_eq_true K]
 ·refine AL.put (i:=i) (v:= .bool false) ?_ (U K);rw [h,decide_eq_false K]
theorem Md{c:Bool}(h:look L i=some (.bool c))(K:c=true->AL J Q b n ds ops k cs m D fuel listed (Ax L (some i) (.bool true)) s)(O:c=false->AL J Q b n ds ops k cs m D fuel listed (Ax L (some i) (.bool false)) s):AL J Q b n ds ops k cs m D fuel listed L s:=by
 cases c
 ·exact AL.put h (O rfl)
 ·exact AL.put h (K rfl)
end
end Pal
namespace Pal
open Go Go.Conc
structure Rp (α:Type) where
 n:Nat
 r:LH->Lv_->α->Prop
 Ag:∀{E E':LH} {ws:Lv_} {x:α},Le E E'->r E ws x->r E' ws x
 len:∀{E:LH} {ws:Lv_} {x:α},r E ws x->ws.length=n
 one:∀{E:LH} {ws:Lv_} {x:α},r E ws x->∀w∈ws,BT w=true
def rK(kd:IntKind):Rp Int:=⟨1,λ_ ws x=>ws= [.int kd x],λ_ h=>h,λh=>by subst h;rfl,λh w hw=>by subst h;simp at hw;subst hw;rfl⟩
abbrev rI:Rp Int:=rK .i64
def rN(kd:IntKind):Rp Nat:=⟨1,λ_ ws x=>ws= [.int kd ((x:Nat):Int)],λ_ h=>h,λh=>by subst h;rfl,λh w hw=>by subst h;simp at hw;subst hw;rfl⟩
def rB:Rp Bool:=⟨1,λ_ ws x=>ws= [.bool x],λ_ h=>h,λh=>by subst h;rfl,λh w hw=>by subst h;simp at hw;subst hw;rfl⟩
def rP{α β:Type}(p:Rp α)(q:Rp β):Rp (α×β):=⟨p.n+q.n,λE ws x=>∃U V,ws=U++V/\p.r E U x.1/\q.r E V x.2,
 λhle ⟨a,b,h,K,O⟩=>⟨a,b,h,p.Ag hle K,q.Ag hle O⟩,λ⟨a,b,h,K,O⟩=>by subst h;rw [List.length_append,p.len K,q.len O],
 λ⟨a,b,h,K,O⟩ w hw=>by
  subst h
  rcases List.mem_append.1 hw with hw | hw
  ·exact p.one K w hw
  ·exact q.one O w hw⟩
def Am{α:Type}(p:Rp α)(E:LH)(a:Option Addr)(c:Nat)(xs:List α):Prop:=
 xs.length<=c/\((xs= []/\∀ad:Addr,a=some ad->ad.spot=none∨c=0)∨∃bk off,a=some ⟨bk,off,none⟩/\∀(i:Nat) x,xs[i]? =some x->∃ws,p.r E ws x/\At E bk (off+i*p.n) ws)
theorem Am.Ag{α:Type}{p:Rp α}{E E':LH}{a:Option Addr}{c:Nat}{xs:List α}(h:Am p E a c xs)(hle:Le E E'):Am p E' a c xs:=
 ⟨h.1,h.2.imp id λ⟨bk,off,K,O⟩=>⟨bk,off,K,λi x U=>let ⟨ws,V,Y⟩:=O i x U;⟨ws,p.Ag hle V,Y.Ag hle⟩⟩⟩
theorem Am.nil{α:Type}{p:Rp α}{E:LH}{c:Nat}:Am p E none c []:=⟨Nat.zero_le _,.inl ⟨rfl,λ_ h=>by cases h⟩⟩
def rL{α:Type}(p:Rp α):Rp (List α):=⟨1,λE ws xs=>∃a c,ws= [.slice a xs.length c]/\Am p E a c xs,
 λhle ⟨a,c,h,K⟩=>⟨a,c,h,K.Ag hle⟩,λ⟨a,c,h,K⟩=>by subst h;rfl,λ⟨a,c,h,K⟩ w hw=>by subst h;simp at hw;subst hw;rfl⟩
def rV:Rp Value:=⟨1,λ_ ws x=>ws= [x]/\BT x=true,λ_ h=>h,λh=>by rw [h.1];rfl,λh w hw=>by rw [h.1] at hw;simp at hw;subst hw;exact h.2⟩
def rA{α:Type}(k:Nat)(p:Rp α):Rp (List α):=⟨k*p.n,λE ws xs=>xs.length=k/\∃wss:List (Lv_),ws=wss.flatten/\wss.length=k/\∀(i:Nat) x us,xs[i]? =some x->wss[i]? =some us->p.r E us x,
 λhle ⟨U,wss,h,K,O⟩=>⟨U,wss,h,K,λi x us a b=>p.Ag hle (O i x us a b)⟩,
 λ{E ws xs} ⟨U,wss,h,K,O⟩=>by
  subst h
  have:∀(wss:List (Lv_)) (xs:List α),xs.length=wss.length->(∀(i:Nat) x us,xs[i]? =some x->wss[i]? =some us->p.r E us x)->wss.flatten.length=wss.length*p.n:=by
   intro wss
   induction wss with
   | nil=>intro xs _ _;simp
   | cons us wss Y=>
    intro xs V h
    cases xs with
    | nil=>simp at V
    | cons x xs=>
     rw [List.flatten_cons,List.length_append,p.len (h 0 x us rfl rfl),Y xs (by simpa using V) (λi y u a b=>h (i+1) y u a b),List.length_cons,Nat.succ_mul,Nat.add_comm]
  rw [this wss xs (by omega) O,K],
 λ{E ws xs} ⟨U,wss,h,K,O⟩ w hw=>by
  subst h
  obtain⟨us,Z,hw⟩:=List.mem_flatten.1 hw
  obtain⟨i,hi⟩:=List.mem_iff_getElem?.1 Z
  have aa:i<xs.length:=by rw [U,← K];exact(List.getElem?_eq_some_iff.1 hi).1
  exact p.one (O i _ us (List.getElem?_eq_getElem aa) hi) w hw⟩
def ix{α:Type}(xs:List α)(i:Int):Option α:=if 0<=i then xs[i.toNat]? else none
theorem Ge{α:Type}{xs:List α}{i:Int}{x:α}(h:ix xs i=some x):∃m:Nat,i=m/\xs[m]? =some x:=by
 unfold ix at h;split at h
 ·exact⟨i.toNat,by omega,h⟩
 ·cases h
def Au(x:Int):Option Int:=if -9223372036854775808<=x/\x<=9223372036854775807 then some x else none
theorem Kr{x y:Int}(h:Au x=some y):y=x/\ -9223372036854775808<=x/\x<=9223372036854775807:=by
 unfold Au at h;split at h
 ·rename_i hb;exact⟨(Option.some.inj h).symm,hb⟩
 ·cases h
theorem bind_some{α β:Type}{o:Option α}{f:α->Option β}{r:β}(h:o.bind f=some r):∃x,o=some x/\f x=some r:=by
 cases o with
 | none=>cases h
 | some x=>exact⟨x,rfl,h⟩
inductive Bn (S A:Type) where
 | more (s:S)
 | done (a:A)
def iter{S A:Type}(body:S->Option (Bn S A)):Nat->S->Option A
 | 0,_=>none
 | f+1,s=>match body s with
  | none=>none
  | some (.done a)=>some a
  | some (.more s')=>iter body f s'
theorem Qr{S A:Type}{body:S->Option (Bn S A)}{f:Nat}{s:S}{a:A}(h:iter body (f+1) s=some a):∃st,body s=some st:=by
 simp only [iter] at h;cases hb:body s with
 | none=>rw [hb] at h;cases h
 | some st=>exact⟨st,rfl⟩
theorem Qx{S A:Type}{body:S->Option (Bn S A)}{f:Nat}{s:S}{a K:A}(h:iter body (f+1) s=some a)(hb:body s=some (.done K)):K=a:=by
 simp only [iter,hb] at h;exact Option.some.inj h
theorem Qs{S A:Type}{body:S->Option (Bn S A)}{f:Nat}{s s':S}{a:A}(h:iter body (f+1) s=some a)(hb:body s=some (.more s')):iter body f s'=some a:=by
 simp only [iter,hb] at h;exact h
abbrev Seg:=List (Nat×Obj)
def Ak(E H:LH)(S:List Seg):St:=mk E H S.flatten
def An(E H:LH)(S:List Seg):Prop:=Nd E H S.flatten
theorem Nd.mem{E H:LH}:∀{B:List (Nat×Obj)} {b:Nat} {o:Obj},Nd E H B->(b,o)∈B->∃i:Nat,B[i]? =some (b,o):=λ_ h=>List.mem_iff_getElem?.1 h
theorem Nd.iff{E H:LH}:∀{B:List (Nat×Obj)},Nd E H B↔(B.map (·.1)).Nodup/\∀p∈B,E p.1=none/\H p.1=none
 | []=>by simp [Nd]
 | (b,o)::B=>by
  simp only [Nd,List.map_cons,List.nodup_cons,List.mem_cons,forall_eq_or_imp,Nd.iff (B:=B),List.mem_map,not_exists,not_and]
  constructor
  ·rintro⟨K,O,U,V,Y⟩;exact⟨⟨U,V⟩,⟨K,O⟩,Y⟩
  ·rintro⟨⟨U,V⟩,⟨K,O⟩,Y⟩;exact⟨K,O,U,V,Y⟩
theorem Nd.perm{E H:LH}{B B':List (Nat×Obj)}(h:Nd E H B)(K:B.Perm B'):Nd E H B':=by
 rw [Nd.iff] at h ⊢;exact⟨(K.map _).nodup_iff.1 h.1,λp O=>h.2 p (K.mem_iff.2 O)⟩
theorem Qf{E H:LH}{B B':List (Nat×Obj)}(h:Nd E H B)(K:B.Perm B'):Bi B H=Bi B' H:=by
 funext x;by_cases O:∃p∈B,p.1=x
 ·obtain⟨⟨b,o⟩,hm,rfl⟩:=O;obtain⟨i,hi⟩:=h.mem hm;obtain⟨j,U⟩:=(h.perm K).mem (K.mem_iff.1 hm);rw [IM h hi,IM (h.perm K) U]
 ·have key:∀{C:List (Nat×Obj)},(∀p∈C,p.1≠x)->Bi C H x=H x:=by
   intro C
   induction C with
   | nil=>intro _;rfl
   | cons p C V=>
    intro hC;obtain⟨c,u⟩:=p;have Y:x≠c:=λe=>hC (c,u) (by simp) e.symm;simp only [Bi,if_neg Y];exact V λp K=>hC p (List.mem_cons_of_mem _ K)
  rw [key λp K e=>O ⟨p,K,e⟩,key λp Z e=>O ⟨p,K.mem_iff.2 Z,e⟩]
theorem EZ{E H:LH}{B B':List (Nat×Obj)}(h:Nd E H B)(K:B.Perm B'):mk E H B=mk E H B':=by unfold mk;rw [Qf h K]
theorem Ei{S:List Seg}{j:Nat}{seg seg':Seg}(h:S[j]? =some seg):S.flatten.Perm ((S.set j []).flatten++seg)/\(S.set j seg').flatten.Perm ((S.set j []).flatten++seg'):=by
 induction S generalizing j with
 | nil=>simp at h
 | cons x S K=>
  cases j with
  | zero=>
   simp at h;subst h;simp only [List.set_cons_zero,List.flatten_cons,List.nil_append];exact⟨List.perm_append_comm,List.perm_append_comm⟩
  | succ j=>
   simp at h;obtain⟨O,U⟩:=K h;simp only [List.set_cons_succ,List.flatten_cons,List.append_assoc];exact⟨O.append_left x,U.append_left x⟩
theorem Gx{E H:LH}{S:List Seg}{j:Nat}{seg:Seg}(K:An E H S)(h:S[j]? =some seg):Ak E H S=mk E H ((S.set j []).flatten++seg)/\Nd E H ((S.set j []).flatten++seg):=
 ⟨EZ K (Ei (seg':=seg) h).1,Nd.perm K (Ei (seg':=seg) h).1⟩
theorem Io{E H:LH}{S:List Seg}{j:Nat}{seg seg':Seg}(h:S[j]? =some seg)(K:Nd E H ((S.set j []).flatten++seg')):mk E H ((S.set j []).flatten++seg')=Ak E H (S.set j seg')/\An E H (S.set j seg'):=
 ⟨EZ K (Ei h).2.symm,Nd.perm K (Ei h).2.symm⟩
theorem GO(S:List Seg)(seg:Seg):(S++ [seg]).flatten=S.flatten++seg:=by simp
theorem EX{E H:LH}{S:List Seg}{seg:Seg}(K:Nd E H (S.flatten++seg)):mk E H (S.flatten++seg)=Ak E H (S++ [seg])/\An E H (S++ [seg]):=by
 unfold Ak An;rw [GO];exact⟨rfl,K⟩
theorem DW{E H:LH}{S:List Seg}{j i bk:Nat}{seg:Seg}{o:Obj}(K:An E H S)(O:S[j]? =some seg)(hi:seg[i]? =some (bk,o)):(Ak E H S).get bk=some o:=by
 have hm:(bk,o)∈S.flatten:=List.mem_flatten.2 ⟨seg,List.mem_of_getElem? O,List.mem_of_getElem? hi⟩;obtain⟨V,U⟩:=K.mem hm;exact N5 K U
theorem BM{E H:LH}{S:List Seg}{j bk off:Nat}{c:Av_}{e:TypeId}{f:Nat×Nat}{v:Value}{seg:Seg}(K:An E H S)(O:S[j]? =some ((bk,.cells c e f)::seg))(U:c[off]? =some v):(Ak E H S).cell? ⟨bk,off,none⟩=some v:=by
 unfold St.cell?;rw [DW (i:=0) K O rfl];exact U
theorem Ui{E H:LH}{S:List Seg}{j bk off:Nat}{c:Av_}{e:TypeId}{f:Nat×Nat}{vs:Lv_}{seg:Seg}(K:An E H S)(O:S[j]? =some ((bk,.cells c e f)::seg))(U:∀i v,vs[i]? =some v->c[off+i]? =some v):∀i v,vs[i]? =some v->(Ak E H S).cell? (Addr.add ⟨bk,off,none⟩ i)=some v:=λi v hi=>by
 rw [DR rfl];exact BM K O (U i v hi)
def OL{α:Type}(e:TypeId)(p:Rp α)(E:LH)(a:Option Addr)(c:Nat)(seg:Seg)(xs:List α):Prop:=
 ∃wss:List (Lv_),GS e p.n a xs.length c seg wss.flatten/\wss.length=xs.length/\∀(i:Nat) x ws,xs[i]? =some x->wss[i]? =some ws->p.r E ws x
theorem OL.Ag{α:Type}{e:TypeId}{p:Rp α}{E E':LH}{a:Option Addr}{c:Nat}{seg:Seg}{xs:List α}(h:OL e p E a c seg xs)(hle:Le E E'):OL e p E' a c seg xs:=
 let ⟨wss,K,O,U⟩:=h;⟨wss,K,O,λi x ws V hw=>p.Ag hle (U i x ws V hw)⟩
theorem OL.nil{α:Type}{e:TypeId}{p:Rp α}{E:LH}:OL e p E none 0 [] []:=⟨[],GS.nil,rfl,λi x ws K=>by simp at K⟩
theorem HN{α:Type}{p:Rp α}{E:LH}{wss:List (Lv_)}{xs:List α}(K:wss.length=xs.length)(h:∀(i:Nat) x ws,xs[i]? =some x->wss[i]? =some ws->p.r E ws x):∀ws∈wss,ws.length=p.n:=λws hw=>by
 obtain⟨i,hi⟩:=List.mem_iff_getElem?.1 hw
 have O:i<xs.length:=by rw [← K];exact(List.getElem?_eq_some_iff.1 hi).1
 exact p.len (h i _ ws (List.getElem?_eq_getElem O) hi)
theorem JN{α:Type}{n:Nat}:∀{wss:List (List α)},(∀ws∈wss,ws.length=n)->∀{i:Nat} {ws:List α},wss[i]? =some ws->∀j w,ws[j]? =some w->wss.flatten[i*n+j]? =some w
 | [],_,_,_,h,_,_,_=>by simp at h
 | us::wss,O,0,ws,h,j,w,K=>by
  simp at h;subst h
  have:j<us.length:=(List.getElem?_eq_some_iff.1 K).1
  simp only [List.flatten_cons,Nat.zero_mul,Nat.zero_add]
  rw [List.getElem?_append_left this];exact K
 | us::wss,O,i+1,ws,h,j,w,K=>by
  simp at h
  have hu:us.length=n:=O us (by simp)
  simp only [List.flatten_cons]
  rw [List.getElem?_append_right (by rw [hu,Nat.succ_mul];omega)]
  have e:(i+1)*n+j - us.length=i*n+j:=by rw [hu,Nat.succ_mul];omega
  rw [e];exact JN (λws hw=>O ws (List.mem_cons_of_mem _ hw)) h j w K
end Pal
namespace Pal
open Go Go.Conc
section
variable {P:Program}{s:St}{ρ:Operand->Value}{x y z:Operand}{d:Option Tmp}{t u ty e:TypeId}{p:String}{af:Ae_}{g:On_}{v:Value}{kd kd':IntKind}{m m':Int}{a b:Nat}
theorem Pz{a:Nat}:IntKind.u64.wrap (a:Int)=((a % 2 ^ 64:Nat):Int):=by
 simp only [IntKind.wrap,IntKind.bits,IntKind.signed];simp
theorem WM(K:ρ x= .int .u64 (a:Int))(O:ρ y= .int .u64 (b:Int)):Yl P ⟨d,.binOp .add t x y u,ty,p,af,g⟩ ρ s (.int .u64 (((a+b) % 2 ^ 64:Nat):Int)):=by
 have h:=Yl.add (P:=P) (s:=s) (d:=d) (t:=t) (u:=u) (ty:=ty) (p:=p) (af:=af) (g:=g) K O;rw [show((a:Int)+(b:Int))=((a+b:Nat):Int) by omega,Pz] at h;exact h
theorem Mr(K:ρ x= .int .u64 (a:Int))(O:ρ y= .int .u64 (b:Int)):Yl P ⟨d,.binOp .mul t x y u,ty,p,af,g⟩ ρ s (.int .u64 (((a*b) % 2 ^ 64:Nat):Int)):=by
 have h:=Yl.mul (P:=P) (s:=s) (d:=d) (t:=t) (u:=u) (ty:=ty) (p:=p) (af:=af) (g:=g) K O;rw [show((a:Int)*(b:Int))=((a*b:Nat):Int) by rw [Int.natCast_mul],Pz] at h;exact h
theorem Mv(K:ρ x= .int .u64 (a:Int))(O:ρ y= .int .u64 (b:Int)):Yl P ⟨d,.binOp .xor t x y u,ty,p,af,g⟩ ρ s (.int .u64 (((a ^^^ b) % 2 ^ 64:Nat):Int)):=by
 have h:=Yl.xor (P:=P) (s:=s) (d:=d) (t:=t) (u:=u) (ty:=ty) (p:=p) (af:=af) (g:=g) K O;have e:(BitVec.ofInt IntKind.u64.bits (a:Int) ^^^ BitVec.ofInt IntKind.u64.bits (b:Int)).toNat=(a ^^^ b) % 2 ^ 64:=by
  rw [Nat.xor_mod_two_pow];rw [BitVec.ofInt_natCast,BitVec.ofInt_natCast];show(BitVec.ofNat 64 a ^^^ BitVec.ofNat 64 b).toNat=_;rw [BitVec.toNat_xor,BitVec.toNat_ofNat,BitVec.toNat_ofNat]
 rw [e,Pz,Nat.mod_mod] at h;exact h
theorem V5(K:ρ x= .int .u64 (a:Int))(O:ρ y= .int .u64 (b:Int))(U:b≠0):Yl P ⟨d,.binOp .rem t x y u,ty,p,af,g⟩ ρ s (.int .u64 ((a % b:Nat):Int)):=by
 have h:=Yl.rem (P:=P) (s:=s) (d:=d) (t:=t) (u:=u) (ty:=ty) (p:=p) (af:=af) (g:=g) K O (by omega);rw [show(a:Int).tmod (b:Int)=((a % b:Nat):Int) from rfl] at h;exact h
theorem KH(c:Nat)(K:ρ x= .int .u64 (a:Int))(O:ρ y= .int .u64 (c:Int))(U:c<=64):Yl P ⟨d,.binOp .shr t x y u,ty,p,af,g⟩ ρ s (.int .u64 ((a>>>c:Nat):Int)):=by
 have h:=Yl.shr (P:=P) (s:=s) (d:=d) (t:=t) (u:=u) (ty:=ty) (p:=p) (af:=af) (g:=g) K O (by omega);have e:min (c:Int).toNat IntKind.u64.bits=c:=by simp [IntKind.bits];omega
 rw [e,Int.fdiv_eq_ediv_of_nonneg _ (Int.pow_nonneg (by decide))] at h;have e2:(a:Int) / 2 ^ c=((a>>>c:Nat):Int):=by rw [Nat.shiftRight_eq_div_pow,Int.natCast_ediv];rfl
 rw [e2] at h;exact h
def C6(m:Int):Nat:=(m % 2 ^ 64).toNat
def LF(a:Nat):Int:=IntKind.i64.wrap (a:Int)
theorem Yl.C6(K:P.underlying t=some (.int .i64))(hu:P.underlying u=some (.int .u64))(O:ρ x=iV m):Yl P ⟨d,.convert t u x,ty,p,af,g⟩ ρ s (.int .u64 ((C6 m:Nat):Int)):=by
 have h:=EY (P:=P) (s:=s) (d:=d) (ty:=ty) (p:=p) (af:=af) (g:=g) K hu O
 have e:IntKind.u64.wrap m=((Pal.C6 m:Nat):Int):=by
  unfold Pal.C6;simp only [IntKind.wrap,IntKind.bits,IntKind.signed];simp;omega
 rw [e] at h;exact h
theorem XZ(K:P.underlying t=some (.int .u64))(hu:P.underlying u=some (.int .i64))(O:ρ x= .int .u64 (a:Int)):Yl P ⟨d,.convert t u x,ty,p,af,g⟩ ρ s (iV (LF a)):=
 EY (P:=P) (s:=s) (d:=d) (ty:=ty) (p:=p) (af:=af) (g:=g) K hu O
theorem DF{r:Int}(K:ρ x=iV m)(O:ρ y=iV m')(h:Au (m+m')=some r):Yl P ⟨d,.binOp .add t x y u,ty,p,af,g⟩ ρ s (iV r):=by
 obtain⟨rfl,hb⟩:=Kr h;exact WK K O hb
theorem DG{r:Int}(K:ρ x=iV m)(O:ρ y=iV m')(h:Au (m - m')=some r):Yl P ⟨d,.binOp .sub t x y u,ty,p,af,g⟩ ρ s (iV r):=by
 obtain⟨rfl,hb⟩:=Kr h;exact WJ K O hb
theorem Mt{r:Int}(K:ρ x=iV m)(O:ρ y=iV m')(h:Au (m*m')=some r):Yl P ⟨d,.binOp .mul t x y u,ty,p,af,g⟩ ρ s (iV r):=by
 obtain⟨rfl,hb⟩:=Kr h;exact V6 K O hb
theorem Hj{r:Int}(K:ρ x=iV m)(h:Au (-m)=some r):Yl P ⟨d,.unOp .neg t x,ty,p,af,g⟩ ρ s (iV r):=by
 obtain⟨rfl,hb⟩:=Kr h;exact WA K hb
theorem Hl(K:ρ x= .int kd m)(O:ρ y= .int kd m'):Yl P ⟨d,.binOp .neq t x y u,ty,p,af,g⟩ ρ s (.bool (decide (m≠m'))):=by
 have h:=Yl.neq (P:=P) (s:=s) (d:=d) (t:=t) (u:=u) (ty:=ty) (p:=p) (af:=af) (g:=g) K O;simpa using h
theorem IQ{q:Prop} [Decidable q] (K:ρ x= .bool (decide q)):Yl P ⟨d,.unOp .not t x,ty,p,af,g⟩ ρ s (.bool (decide (¬q))):=by
 have h:=Yl.not (P:=P) (s:=s) (d:=d) (t:=t) (ty:=ty) (p:=p) (af:=af) (g:=g) K;simpa using h
theorem N9{K:Array (Nat×Operand)}:execOp ρ ⟨d,.build t K,ty,p,af,g⟩=(do pure (Next.value (← Instr.build t (K.map λ(j,x)=>(j,ρ x))))):=by
 simp only [execOp]
theorem Yl.build{z:Value}{O:Array Field}{K:Array (Nat×Operand)}{vs:List (Nat×Value)}{places:Array (Nat×Nat)}{cells:Av_}(Y:zeroOf P t=some z)(Z:P.underlying t=some (.struct O))(aa:O.toList.mapM (λf=>(Bm P f.type).map λn=>(f.offset,n))=some places.toList)
  (ab:K.toList.map (λ(j,x)=>(j,ρ x))=vs) (ac:Instr.fill (places[·]?) z.cells vs=some cells):Yl P ⟨d,.build t K,ty,p,af,g⟩ ρ s (.agg cells):=by
 refine FL N9 ?_;unfold Instr.build;refine Av (x:=zeroValue t) _ (Hd Y ?_);refine Av _ _ (Cp Z ?_);simp only;have key:∀(l:List Field) (acc:List (Nat×Nat)) {Q:List (Nat×Nat)->St->Prop} {X:Halt->St->Prop} (K:List (Nat×Nat)),l.mapM (λf=>(Bm P f.type).map λn=>(f.offset,n))=some K->Q (acc.reverse++K) s->lp P (List.mapM.loop (m:=Sem) (λf=>do pure (f.offset,← Go.sizeOf f.type)) l acc) s Q X:=by
  intro l
  induction l with
  | nil=>
   intro acc Q X K h k;simp at h;subst h;simp only [List.append_nil] at k;exact k
  | cons f l ae=>
   intro acc Q X K h k;simp only [List.mapM_cons,bind] at h;cases U:Bm P f.type with
   | none=>rw [U] at h;simp at h
   | some n=>
    rw [U] at h;simp only [Option.map_some,Option.bind_some] at h;obtain⟨ag,ah,V⟩:=bind_some h;simp at V;subst V;have:=ae ((f.offset,n)::acc) (Q:=Q) (X:=X) ag ah (by simpa using k);simp only [List.mapM.loop];exact Av _ _ (Av (x:=Go.sizeOf f.type) _ (Ex U this))
 have e:(K.map λ(j,x)=>(j,ρ x)).toList=vs:=by rw [← ab,Array.toList_map]
 refine Av _ _ ?_;rw [Array.mapM_eq_mapM_toList];refine Av (x:=List.mapM.loop (m:=Sem) (λf=>do pure (f.offset,← Go.sizeOf f.type)) O.toList []) (f:=λr=>pure r.toArray) (key O.toList [] places.toList aa ?_)
 simp only [List.reverse_nil,List.nil_append,lp,pure];rw [e,ac];exact⟨rfl,rfl⟩
end
end Pal
namespace Pal
open Go Go.Conc
section
variable {P:Program}{J:Judge P}{Q:Gs_}{b:Frame}{n:Nat}{ds:Ld_}{ops:Ao_}{k:Li_}{cs:Lf_}{L:Env}{s:St}{E E' H:LH}{S:List Seg}
variable {d:Option Tmp}{x y:Operand}{t u ty e:TypeId}{p:String}{af:Ae_}{g:On_}{v:Value}{i:Nat}{rest:List Nat}{kd:IntKind}
theorem JS.box(O:ops[i]? =some ⟨d,.box e x,ty,p,af,g⟩)(hw:AT L ops ⟨d,.box e x,ty,p,af,g⟩=some true)(U:BK b n ⟨d,.box e x,ty,p,af,g⟩=true)(V:An E H S)(Y:ev L x=some v)
  (h:∀r,An E H (S++ [[(r,.cells v.cells e (0,0))]])->JL J Q b n (Ax L d (.pointer (some ⟨r,0,none⟩))) ds (.inRegion ops rest::k) cs (Ak E H (S++ [[(r,.cells v.cells e (0,0))]]))):
  JL J Q b n L ds (.inRegion ops (i::rest)::k) cs (Ak E H S):=
 JL.box O hw U V Y λr K=>by rw [(EX K).1];exact h r (EX K).2
theorem JS.alloc{z:Value}(O:ops[i]? =some ⟨d,.alloc e,ty,p,af,g⟩)(hw:AT L ops ⟨d,.alloc e,ty,p,af,g⟩=some true)(U:BK b n ⟨d,.alloc e,ty,p,af,g⟩=true)(V:An E H S)(Y:zeroOf P e=some z)
  (h:∀r,An E H (S++ [[(r,.cells z.cells e (0,0))]])->JL J Q b n (Ax L d (.pointer (some ⟨r,0,none⟩))) ds (.inRegion ops rest::k) cs (Ak E H (S++ [[(r,.cells z.cells e (0,0))]]))):
  JL J Q b n L ds (.inRegion ops (i::rest)::k) cs (Ak E H S):=
 JL.alloc O hw U V Y λr K=>by rw [(EX K).1];exact h r (EX K).2
theorem JS.store{bk off:Nat}{c:Av_}(j:Nat)(U:ops[i]? =some ⟨d,.store t x y,ty,p,af,g⟩)(hw:AT L ops ⟨d,.store t x y,ty,p,af,g⟩=some true)(V:BK b n ⟨d,.store t x y,ty,p,af,g⟩=true)(Y:An E H S)
  (Z:ev L x=some (.pointer (some ⟨bk,off,none⟩))) (aa:ev L y=some v) (ab:Bm P t=some v.cells.size) (ac:∀u∈v.cells.toList,BT u=true) (K:S[j]? =some [(bk,.cells c e (0,0))]) (hle:off+v.cells.size<=c.size)
  (h:An E H (S.set j [(bk,.cells (Bb c off v.cells.toList) e (0,0))])->JL J Q b n (Ax L d undef) ds (.inRegion ops rest::k) cs (Ak E H (S.set j [(bk,.cells (Bb c off v.cells.toList) e (0,0))]))):
  JL J Q b n L ds (.inRegion ops (i::rest)::k) cs (Ak E H S):=by
 obtain⟨ae,ag⟩:=Gx Y K;rw [ae];refine JL.store (S.set j []).flatten.length U hw V ag Z aa ab ac (c:=c) (e:=e) (by simp) hle λO=>?_;have ah:((S.set j []).flatten++ [(bk,Obj.cells c e (0,0))]).set (S.set j []).flatten.length (bk,.cells (Bb c off v.cells.toList) e (0,0))=(S.set j []).flatten++ [(bk,.cells (Bb c off v.cells.toList) e (0,0))]:=Im _ _ _ _;rw [ah] at O ⊢;obtain⟨ai,aj⟩:=Io K O;rw [ai];exact h aj
theorem JS.drop{todo:Li_}{seg:Seg}(j:Nat)(V:An E H S)(K:S[j]? =some seg)(h:An E H (S.set j [])->JL J Q b n L ds todo cs (Ak E H (S.set j []))):JL J Q b n L ds todo cs (Ak E H S):=by
 obtain⟨Y,O⟩:=Gx V K;rw [Y];have Z:Nd E H ((S.set j []).flatten++ []):=by rw [List.append_nil];exact JR.Nd.left O
 obtain⟨U,aa⟩:=Io (seg':= []) K Z;refine JL.drop (S.set j []).flatten (λq ab=>List.mem_iff_getElem?.1 (List.mem_append_left _ ab)) O ?_;have ac:(S.set j []).flatten++ []=(S.set j []).flatten:=List.append_nil _;rw [ac] at U;rw [U];exact h aa
theorem Cf{todo:Li_}{bk:Nat}{c:Av_}{f:Nat×Nat}(j:Nat)(O:An E H S)(U:S[j]? =some [(bk,.cells c e f)])
  (h:∀E',Le E E'->At E' bk 0 c.toList->An E' H (S.set j [])->JL J Q b n L ds todo cs (Ak E' H (S.set j []))):JL J Q b n L ds todo cs (Ak E H S):=by
 obtain⟨V,Y⟩:=Gx O U;rw [V];have Z:((S.set j []).flatten++ [(bk,Obj.cells c e f)])[(S.set j []).flatten.length]? =some (bk,Obj.cells c e f):=by simp
 refine JL.freeze (S.set j []).flatten.length Y Z λE' hle aa K=>?_;have ab:((S.set j []).flatten++ [(bk,Obj.cells c e f)]).eraseIdx (S.set j []).flatten.length=(S.set j []).flatten:=by rw [List.eraseIdx_append_of_length_le (Nat.le_refl _)];simp
 rw [ab] at K ⊢;exact h E' hle ⟨_,_,_,aa,λi w hi=>by simpa using hi⟩ K
theorem BC{α:Type}{pp:Rp α}{todo:Li_}{a:Option Addr}{c:Nat}{seg:Seg}{xs:List α}(j:Nat)(U:OL e pp E a c seg xs)(ac:An E H S)(ae:S[j]? =some seg)
  (h:∀E',Le E E'->Am pp E' a c xs->An E' H (S.set j [])->JL J Q b n L ds todo cs (Ak E' H (S.set j []))):JL J Q b n L ds todo cs (Ak E H S):=by
 obtain⟨wss,U,Z,aa⟩:=U;have ag:∀ad:Addr,a=some ad->ad.spot=none:=λad K=>by
  rcases U with⟨O,_⟩ | ⟨bk,f,O,_⟩
  ·rw [O] at K;cases K
  ·rw [O] at K;cases K;rfl
 obtain⟨O,ah⟩:=Gx ac ae;rw [O];refine TS U ah λE' hle ai aj=>h E' hle ?_ aj;obtain⟨ak,al,V,am,ar,Y⟩:=ai;obtain⟨rfl,-,rfl⟩:a=ak/\xs.length=xs.length/\c=al:=by
  simp only [Value.slice.injEq] at V;exact⟨V.1,rfl,V.2.2⟩
 refine⟨am,?_⟩;rcases Y with Y | ⟨bk,off,f,an,fr,ao,g2,ap⟩
 ·exact .inl ⟨List.eq_nil_of_length_eq_zero Y,λad K=> .inl (ag ad K)⟩
 ·refine .inr ⟨bk,off,ao,λi x ab=>?_⟩;have aq:i<wss.length:=by rw [Z];exact(List.getElem?_eq_some_iff.1 ab).1
  have hw:=List.getElem?_eq_getElem aq;refine⟨wss[i],pp.Ag hle (aa i x _ ab hw),f,an,fr,g2,λm w hm=>?_⟩;rw [Nat.add_assoc];exact ap _ w (JN (HN Z aa) hw m w hm)
theorem TP{α:Type}{pp:Rp α}{wss:List (Lv_)}{xs:List α}{x:α}{ws:Lv_}(O:wss.length=xs.length)(h:∀(i:Nat) x ws,xs[i]? =some x->wss[i]? =some ws->pp.r E ws x)(U:pp.r E ws x):
  ∀(i:Nat) y us,(xs++ [x])[i]? =some y->(wss++ [ws])[i]? =some us->pp.r E us y:=by
 intro i y us K hu;rcases Nat.lt_or_ge i xs.length with hi | hi
 ·rw [List.getElem?_append_left hi] at K;rw [List.getElem?_append_left (by omega)] at hu;exact h i y us K hu
 ·rw [List.getElem?_append_right hi] at K;rw [List.getElem?_append_right (by omega),O] at hu;cases hm:i - xs.length with
  | zero=>rw [hm] at K hu;simp at K hu;subst K hu;exact U
  | succ m=>rw [hm] at K;simp at K
theorem Ua{α:Type}{pp:Rp α}{t1 t2:TypeId}{U c:Nat}{a:Option Addr}{seg:Seg}{xs:List α}{xv:α}{ac:Nat}{d1:Tmp}{ats:Array TypeId}{V:TypeId}{Y:String}{Z:Ae_}{g':On_}{z:Value}(j:Nat)
  (ah:ops[i]? =some ⟨some d1,.buildSlice t2 1 #[(0,y)],V,Y,Z,g'⟩) (hw:AT L ops ⟨some d1,.buildSlice t2 1 #[(0,y)],V,Y,Z,g'⟩=some true) (ai:BK b n ⟨some d1,.buildSlice t2 1 #[(0,y)],V,Y,Z,g'⟩=true)
  (aj:ops[ac]? =some ⟨d,.call ⟨.builtin .append,#[x,.tmp d1],ats⟩,ty,p,af,g⟩) (ak:∀w,AT (Ax L (some d1) w) ops ⟨d,.call ⟨.builtin .append,#[x,.tmp d1],ats⟩,ty,p,af,g⟩=some true) (al:BK b n ⟨d,.call ⟨.builtin .append,#[x,.tmp d1],ats⟩,ty,p,af,g⟩=true)
  (am:∀w,ev (Ax L (some d1) w) x=some (.slice a xs.length c)) (an:ev L y=some v) (ao:ats[0]? =some t) (ap:ats[1]? =some t1) (aq:P.underlying t=some (.slice e)) (ar:P.underlying t1=some (.slice e)) (au:P.underlying t2=some (.slice e)) (av:Bm P e=some pp.n) (hb:Fp P e=some U) (aw:zeroOf P e=some z) (ay:z.cells.size=pp.n)
  (az:0<U) (aA:U<=64) (aB:0<pp.n) (aC:pp.n<=64) (aD:xs.length+1<=2 ^ 40) (aa:OL e pp E a c seg xs) (ab:pp.r E v.cells.toList xv) (aE:An E H S) (ae:S[j]? =some seg)
  (h:∀w K O seg',OL e pp E K O seg' (xs++ [xv])->An E H (S.set j seg')->JL J Q b n (Ax (Ax L (some d1) w) d (.slice K (xs++ [xv]).length O)) ds (.inRegion ops rest::k) cs (Ak E H (S.set j seg'))):
  JL J Q b n L ds (.inRegion ops (i::ac::rest)::k) cs (Ak E H S):=by
 obtain⟨wss,aa,ag,aF⟩:=aa;obtain⟨aG,aH⟩:=Gx aE ae;rw [aG];have aI:v.cells.size=pp.n:=by simpa using pp.len ab
 refine T8 ah hw ai aj ak al am an ao ap aq ar au av hb aw ay az aA aI aB aC aD (pp.one ab) aa aH λw K O aJ aK aL=>?_;obtain⟨aM,aN⟩:=Io ae aL;rw [aM];have hlen:(xs++ [xv]).length=xs.length+1:=by simp
 have:=h w K O aJ ⟨wss++ [v.cells.toList],by rw [hlen,List.flatten_append];simpa using aK,by simp [ag],TP ag aF ab⟩ aN;rw [hlen] at this;exact this
theorem Hk{α:Type}{pp:Rp α}{a:Option Addr}{c:Nat}{xs:List α}{xv:α}{m:Int}(O:Am pp E a c xs)(hm:ix xs m=some xv)
  (U:ops[i]? =some ⟨d,.indexAddr t x y,ty,p,af,g⟩) (hw:AT L ops ⟨d,.indexAddr t x y,ty,p,af,g⟩=some true) (V:BK b n ⟨d,.indexAddr t x y,ty,p,af,g⟩=true)
  (Y:ev L x=some (.slice a xs.length c)) (Z:ev L y=some (.int kd m)) (aa:P.underlying t=some (.slice e)) (ab:Bm P e=some pp.n)
  (h:∀bk o ws,pp.r E ws xv->At E bk o ws->JL J Q b n (Ax L d (.pointer (some ⟨bk,o,none⟩))) ds (.inRegion ops rest::k) cs (Ak E H S)):
  JL J Q b n L ds (.inRegion ops (i::rest)::k) cs (Ak E H S):=by
 obtain⟨m,rfl,hm⟩:=Ge hm;have ac:m<xs.length:=(List.getElem?_eq_some_iff.1 hm).1;obtain⟨ai,⟨rfl,_⟩ | ⟨bk,off,rfl,ae⟩⟩:=O
 ·simp at ac
 obtain⟨ws,ag,ah⟩:=ae m xv hm;refine Ao (v:= .pointer (some ⟨bk,off+m*pp.n,none⟩)) U hw V (λρ K=>?_) (h bk _ ws ag ah);have:=Mh (P:=P) (s:=Ak E H S) (d:=d) (ty:=ty) (p:=p) (af:=af) (g:=g) aa ab (K x _ Y) (K y _ Z) ⟨by omega,by omega⟩;rw [DR rfl] at this;simpa using this
theorem At.Dd{bk o j:Nat}{ws:Lv_}{w:Value}(h:At E bk o ws)(K:ws[j]? =some w):(Ak E H S).cell? ⟨bk,o+j,none⟩=some w:=h.cell K
theorem At.Is{bk o:Nat}{ws:Lv_}(h:At E bk o ws):∀j v,ws[j]? =some v->(Ak E H S).cell? (Addr.add ⟨bk,o,none⟩ j)=some v:=h.cells
theorem Bg{todo:Li_}(I:Env->St->Prop){c:Code}(K:∀L s,I L s->JL J Q b n L ds todo cs s)(h:(∀L s,I L s->JL J Q b n L ds todo cs s)->JL J Q b n L ds (.code c::todo) cs s):JL J Q b n L ds (.code c::todo) cs s:=h K
theorem GN{K:List Nat}{todo:Li_}(l:List Nat)(I:Env->St->Prop)(O:∀L s,I L s->JL J Q b n L ds (.inRegion ops l::todo) cs s)(h:(∀L s,I L s->JL J Q b n L ds (.inRegion ops l::todo) cs s)->JL J Q b n L ds (.inRegion ops K::todo) cs s):JL J Q b n L ds (.inRegion ops K::todo) cs s:=h O
theorem Hi{K A:Type}{c:Code}{body:K->Option (Bn K A)}{f:Nat}{O:K}{a:A}(U:iter body f O=some a)(I:Env->St->K->Prop)(Y:I L s O)
  (round:∀L s x,I L s x->(∀V,body x=some (.done V)->V=a)->(∃st,body x=some st)->(∀L' s' x',I L' s' x'->body x=some (.more x')->JL J Q b n L' ds (.inLoop c::k) cs s')->JL J Q b n L ds (.code c:: .inLoop c::k) cs s):
  JL J Q b n L ds (.code (.loop c)::k) cs s:=by
 refine Ii ?_
 induction f generalizing L s O with
 | zero=>cases U
 | succ f Z=>
  refine round L s O Y (λV h=>Qx U h) (Qr U) λL' s' x' aa hb=>JL.again (Z (Qs U hb) aa)
def AP(J:Judge P)(f:FuncId)(args:Lv_)(E:LH)(B:Seg)(R:Value->LH->Seg->Prop):Prop:=
 ∀H,Nd E H B->EH J f args.toArray (mk E H B) (λv s'=>∃E' B',Le E E'/\R v E' B'/\Nd E' H B'/\s'=mk E' H B')
theorem AP.enter{f:FuncId}{fn:Func}{c:Code}{vs:Lv_}{B:Seg}{R:Value->LH->Seg->Prop}(O:P.funcs[f]? =some fn)(hb:fn.body=some c)(U:vs.length<=fn.ntmps)
  (h:∀(Q:Gs_) (K:Frame) (cs:Lf_) (H:LH),An E H [B]->(∀v E' S' B',Le E E'->S'.flatten=B'->R v E' B'->An E' H S'->J.ok Q (G (K.finish v) cs) (Ak E' H S'))->JL J Q (base f) fn.ntmps (FY 0 vs) [] [.code c] (K::cs) (Ak E H [B])):AP J f vs E B R:=λH V=>
 EH.enter O hb U λQ K cs Y=>by
  have Z:mk E H B=Ak E H [B]:=by unfold Ak;simp
  rw [Z];exact h Q K cs H (by unfold An;simpa using V) λv E' S' B' hle aa ab ac=>by
   subst aa;exact Y v _ ⟨E',S'.flatten,hle,ab,ac,rfl⟩
theorem AP.Ag{f:FuncId}{vs:Lv_}{B:Seg}{R K:Value->LH->Seg->Prop}(h:AP J f vs E B R)(U:∀v E' B',Le E E'->R v E' B'->K v E' B'):AP J f vs E B K:=λH V=>
 (h H V).Ag λv s' ⟨E',B',O,Y,Z,aa⟩=>⟨E',B',O,U v E' B' O Y,Z,aa⟩
theorem FM{H:LH}:∀{A B:List (Nat×Obj)},Bi (A++B) H=Bi A (Bi B H)
 | [],_=>rfl
 | (c,o)::A,B=>by
  funext x
  simp only [List.cons_append,Bi]
  split
  ·rfl
  ·rw [FM]
theorem Mg{H:LH}{x:Nat}:∀{B:List (Nat×Obj)},(∀p∈B,p.1≠x)->Bi B H x=H x
 | [],_=>rfl
 | (c,u)::B,K=>by
  have O:x≠c:=λe=>K (c,u) (by simp) e.symm
  simp only [Bi,if_neg O]
  exact Mg λp U=>K p (List.mem_cons_of_mem _ U)
theorem Nd.front{A B:List (Nat×Obj)}(h:Nd E H (A++B)):Nd E (Bi B H) A:=by
 rw [Nd.iff] at h ⊢;obtain⟨K,U⟩:=h;rw [List.map_append,List.nodup_append] at K;refine⟨K.1,λq O=>⟨(U q (List.mem_append_left _ O)).1,?_⟩⟩;rw [Mg λr V e=>K.2.2 q.1 (List.mem_map_of_mem O) r.1 (List.mem_map_of_mem V) e.symm];exact(U q (List.mem_append_left _ O)).2
theorem Nd.glue{A B:List (Nat×Obj)}(h:Nd E (Bi B H) A)(U:Nd E H B):Nd E H (A++B):=by
 have V:=U;rw [Nd.iff] at h U ⊢;rw [List.map_append,List.nodup_append];have key:∀q∈A,∀r∈B,q.1≠r.1:=λq K r O e=>by
  have:=(h.2 q K).2;rw [e] at this;obtain⟨i,hi⟩:=V.mem (b:=r.1) (o:=r.2) O;rw [IM V hi] at this;cases this
 refine⟨⟨h.1,U.1,λx Y y Z e=>?_⟩,λq K=>?_⟩
 ·obtain⟨q,K,rfl⟩:=List.mem_map.1 Y;obtain⟨r,O,rfl⟩:=List.mem_map.1 Z;exact key q K r O e
 ·rcases List.mem_append.1 K with K | K
  ·refine⟨(h.2 q K).1,?_⟩;have:=(h.2 q K).2
   rwa [Mg λr O e=>key q K r O e.symm] at this
  ·exact U.2 q K
theorem Kv{f:FuncId}{args:Array Operand}{ats:Array TypeId}{vs:Lv_}{seg:Seg}{R:Value->LH->Seg->Prop}(j:Nat)
  (aa:AP J f vs E seg R) (ab:ops[i]? =some ⟨d,.call ⟨.value (.func f),args,ats⟩,ty,p,af,g⟩) (hw:AT L ops ⟨d,.call ⟨.value (.func f),args,ats⟩,ty,p,af,g⟩=some true) (ac:((b.kind != .early)&&Bh n d)=true) (hb:DI P f=true)
  (ae:evs L args.toList=some vs) (K:An E H S) (O:S[j]? =some seg) (ag:∀v E' seg',Le E E'->R v E' seg'->An E' H (S.set j seg')->JL J Q b n (Ax L d v) ds (.inRegion ops rest::k) cs (Ak E' H (S.set j seg'))):
  JL J Q b n L ds (.inRegion ops (i::rest)::k) cs (Ak E H S):=by
 have U:S.flatten.Perm (seg++(S.set j []).flatten):=(Ei (seg':=seg) O).1.trans List.perm_append_comm;have V:Nd E H (seg++(S.set j []).flatten):=Nd.perm K U;have ah:Ak E H S=mk E (Bi (S.set j []).flatten H) seg:=by
  rw [show Ak E H S=mk E H S.flatten from rfl,EZ K U];unfold mk;rw [FM]
 rw [ah];refine VQ ab hw ac hb ae (aa _ (Nd.front V)) ?_;rintro v s' ⟨E',B',hle,ai,aj,rfl⟩;have e2:mk E' (Bi (S.set j []).flatten H) B'=mk E' H (B'++(S.set j []).flatten):=by unfold mk;rw [FM]
 have ak:Nd E H (S.set j []).flatten:=by
  have:=V;rw [Nd.iff] at this ⊢;rw [List.map_append,List.nodup_append] at this;exact⟨this.1.2.1,λq al=>this.2 q (List.mem_append_right _ al)⟩
 refine RX rfl λ⟨w,am⟩=>?_;have an:Nd E' H (S.set j []).flatten:=ak.grow λx ao=>by
  have ap:=am.d x ao;have aq:Bi B' (Bi (S.set j []).flatten H) x=none:=ap;exact(HI aq).1
 have Y:Nd E' H (B'++(S.set j []).flatten):=Nd.glue aj an;rw [e2];have Z:(B'++(S.set j []).flatten).Perm (S.set j B').flatten:=List.perm_append_comm.trans (Ei O).2.symm;rw [EZ Y Z];exact ag v E' B' hle ai (Nd.perm Y Z)
theorem JS.call{f:FuncId}{args:Array Operand}{ats:Array TypeId}{vs:Lv_}{R:Value->LH->Seg->Prop}
  (U:AP J f vs E [] R) (V:ops[i]? =some ⟨d,.call ⟨.value (.func f),args,ats⟩,ty,p,af,g⟩) (hw:AT L ops ⟨d,.call ⟨.value (.func f),args,ats⟩,ty,p,af,g⟩=some true) (Y:((b.kind != .early)&&Bh n d)=true) (hb:DI P f=true)
  (Z:evs L args.toList=some vs) (K:An E H S) (aa:∀v E' seg',Le E E'->R v E' seg'->An E' H (S++ [seg'])->JL J Q b n (Ax L d v) ds (.inRegion ops rest::k) cs (Ak E' H (S++ [seg']))):
  JL J Q b n L ds (.inRegion ops (i::rest)::k) cs (Ak E H S):=by
 have ab:Ak E H S=Ak E H (S++ [[]]):=by unfold Ak;simp
 rw [ab];refine Kv S.length U V hw Y hb Z (by unfold An at K ⊢;rw [GO,List.append_nil];exact K) (by simp) λv E' seg' hle ac O=>?_;have e2:(S++ [[]]).set S.length seg'=S++ [seg']:=Im _ _ _ _;rw [e2] at O ⊢;exact aa v E' seg' hle ac O
theorem HO{todo:Li_}{S':List Seg}(K:S'.flatten=S.flatten)(O:An E H S)(h:An E H S'->JL J Q b n L ds todo cs (Ak E H S')):JL J Q b n L ds todo cs (Ak E H S):=by
 unfold Ak An at*;rw [K] at h;exact h O
end
end Pal
namespace Pal
open Go Go.Conc
def Ld(P:Program)(t:TypeId)(a:Addr)(s:St)(v:Value):Prop:=lp P (loadVar t a) s (λu s'=>u=v/\s'=s) (λ_ _=>False)
theorem Ld.one{P:Program}{t:TypeId}{a:Addr}{s:St}{v:Value}(K:Dm P t=some false)(h:s.cell? a=some v):Ld P t a s v:=PY K h ⟨rfl,rfl⟩
theorem Ld.many{P:Program}{t:TypeId}{a:Addr}{s:St}{vs:Lv_}(K:Dm P t=some true)(O:Bm P t=some vs.length)(h:∀j v,vs[j]? =some v->s.cell? (a.add j)=some v):Ld P t a s (.agg vs.toArray):=P0 K O h ⟨rfl,rfl⟩
def RV(P:Program)(L:Env)(s:St):List ResultVar->Lv_->Prop
 | [],[]=>True
 | .tmp t::rs,v::vs=>look L t=some v/\RV P L s rs vs
 | .cell a t::rs,v::vs=>(∃ad,look L a=some (.pointer (some ad))/\Ld P t ad s v)/\RV P L s rs vs
 | _,_=>False
def MB:Lv_->Value
 | [v]=>v
 | vs=> .tuple vs.toArray
theorem T5(vs:Lv_):(if h:vs.toArray.size=1 then vs.toArray[0] else Value.tuple vs.toArray)=MB vs:=by
 match vs with
 | []=>rfl
 | [v]=>rfl
 | a::b::c=>simp [MB]
theorem Bd.list{P:Program}{f:FuncId}{fn:Func}{n:Nat}{L:Env}{s:St}{rs:List ResultVar}{vs:Lv_}(Y:P.funcs[f]? =some fn)(Z:fn.results.toList=rs)(h:RV P L s rs vs):Bd P f L n s (MB vs):=by
 refine⟨fn,Y,λT U=>?_⟩;unfold results;rw [Array.mapM_eq_mapM_toList,Z];have key:∀(rs:List ResultVar) (acc vs:Lv_) {Q:Lv_->St->Prop} {X:Halt->St->Prop},RV P L s rs vs->Q (acc.reverse++vs) s->lp P (List.mapM.loop (m:=Sem) (λr=>match r with
   | .tmp t=>pure (T.getD t undef)
   | .cell a t=>do loadVar t (← asAddr (T.getD a undef))) rs acc) s Q X:=by
  intro rs
  induction rs with
  | nil=>
   intro acc vs Q X h k;cases vs with
   | nil=>simp only [List.append_nil] at k;exact k
   | cons v vs=>cases h
  | cons r rs V=>
   intro acc vs Q X h k;cases vs with
   | nil=>cases r <;> cases h
   | cons v vs=>
    cases r with
    | tmp t=>
     obtain⟨K,O⟩:=h;have:=U.at_ t v K;simp only [List.mapM.loop];rw [this];exact V (v::acc) vs O (by simpa using k)
    | cell a t=>
     obtain⟨⟨ad,K,aa⟩,O⟩:=h;have:=U.at_ a _ K;simp only [List.mapM.loop];rw [this];refine Av _ _ (Ej _ (show lp P (loadVar t ad) s _ _ from aa) ?_ (λ_ _ h=>h.elim));rintro u s' ⟨rfl,rfl⟩;exact V (u::acc) vs O (by simpa using k)
 refine Av _ _ (Av (x:=List.mapM.loop (m:=Sem) _ rs []) (f:=λr=>pure r.toArray) ?_);refine key rs [] vs h ?_;simp only [List.reverse_nil,List.nil_append,lp,pure];exact⟨T5 vs,trivial⟩
section
variable {P:Program}{J:Judge P}{Q:Gs_}{g:Goroutine}{E H:LH}{S:List Seg}
theorem Cq{seg:Seg}(j:Nat)(Y:An E H S)(U:S[j]? =some seg)(h:An E H (S.set j [])->J.ok Q g (Ak E H (S.set j []))):J.ok Q g (Ak E H S):=by
 obtain⟨Z,K⟩:=Gx Y U;have aa:Nd E H ((S.set j []).flatten++ []):=by rw [List.append_nil];exact JR.Nd.left K
 obtain⟨ag,ab⟩:=Io (seg':= []) U aa;refine J.ghost (s₀:=Ak E H (S.set j [])) ⟨λ_ _ h=>h,λx o ac=>?_,λ_ _ h=> .inl h,rfl⟩ (h ab);have V:Bi (S.set j []).flatten H x=some o:=ac;show(Ak E H S).H x=some o;rw [Z];show Bi ((S.set j []).flatten++seg) H x=some o;rw [show Bi ((S.set j []).flatten++seg) H=Bi (seg++(S.set j []).flatten) H from Qf K List.perm_append_comm,FM];by_cases hm:∃p∈seg,p.1=x
 ·exfalso;obtain⟨p,O,e⟩:=hm;have ae:=Nd.front (Nd.perm K List.perm_append_comm);have:=((Nd.iff.1 ae).2 p O).2;rw [e,V] at this;cases this
 ·rw [Mg λp O e=>hm ⟨p,O,e⟩];exact V
end
section
variable {P:Program}{J:Judge P}{Q:Gs_}{b:Frame}{n:Nat}{ds:Ld_}{ops:Ao_}{k:Li_}{cs:Lf_}{L:Env}{s:St}{E E' H:LH}{S:List Seg}
variable {d:Option Tmp}{x y:Operand}{t u ty e:TypeId}{p:String}{af:Ae_}{g:On_}{v:Value}{i:Nat}{rest:List Nat}{kd:IntKind}
theorem Oh{ρ:Operand->Value}{len:Nat}{K:Array (Nat×Operand)}:execOp ρ ⟨d,.buildSlice t len K,ty,p,af,g⟩=(do pure (Next.value (← Instr.buildSlice t len (K.map λ(j,x)=>(j,ρ x))))):=by
 simp only [execOp]
theorem T0(v:Av_)(off:Nat)(c:Av_):v.zipIdx.foldl (λcs (x,j)=>cs.setIfInBounds (off+j) x) c=Bb c off v.toList:=by
 rw [← Array.foldl_toList,Array.toList_zipIdx];have key:∀(l:Lv_) (st:Nat) (c:Av_),List.foldl (λcs (p:Value×Nat)=>cs.setIfInBounds (off+p.2) p.1) c (l.zipIdx st)=Bb c (off+st) l:=by
  intro l
  induction l with
  | nil=>intro st c;rfl
  | cons x l K=>intro st c;simp only [List.zipIdx_cons,List.foldl_cons,Bb];rw [K];rfl
 exact key v.toList 0 c
def J6(place:Nat->Option (Nat×Nat))(cells:Av_):List (Nat×Value)->Option (Av_)
 | []=>some cells
 | (i,v)::rest=>match place i with
  | none=>none
  | some (off,size)=>if v.cells.size=size/\off+v.cells.size<=cells.size then J6 place (Bb cells off v.cells.toList) rest else none
theorem fill_eq{place:Nat->Option (Nat×Nat)}:∀{vs:List (Nat×Value)} {cells:Av_},Instr.fill place cells vs=J6 place cells vs
 | [],_=>rfl
 | (i,v)::rest,cells=>by
  simp only [Instr.fill,J6]
  cases place i with
  | none=>rfl
  | some q=>
   obtain⟨off,size⟩:=q
   simp only
   by_cases h:v.cells.size=size/\off+v.cells.size<=cells.size
   ·rw [if_pos h,if_neg (by simp only [Bool.or_eq_true,decide_eq_true_eq,ne_eq];omega),fill_eq,T0]
   ·rw [if_neg h,if_pos (by simp only [Bool.or_eq_true,decide_eq_true_eq,ne_eq];omega)]
theorem QB{n:Nat}:∀(vs:Lv_) (st:Nat) (cells:Av_),(∀v∈vs,v.cells.size=n)->cells.size=(st+vs.length)*n->
  ∃U,J6 (λi=>some (i*n,n)) cells ((vs.zipIdx st).map λq=>(q.2,q.1))=some U/\U.toList=cells.toList.take (st*n)++(vs.map (·.cells.toList)).flatten
 | [],st,cells,_,K=>⟨cells,rfl,by simp only [List.length_nil,Nat.add_zero] at K;simp [← K,List.take_of_length_le]⟩
 | v::vs,st,cells,V,K=>by
  have O:=V v (by simp)
  have hle:st*n+n<=cells.size:=by
   rw [K,List.length_cons];have:(st+1)*n<=(st+(vs.length+1))*n:=Nat.mul_le_mul_right _ (by omega);rw [Nat.succ_mul] at this;exact this
  obtain⟨Y,Z,aa⟩:=QB vs (st+1) (Bb cells (st*n) v.cells.toList) (λu hu=>V u (List.mem_cons_of_mem _ hu)) (by rw [Lc,K,List.length_cons];congr 1;omega);refine⟨Y,?_,?_⟩
  ·simp only [List.zipIdx_cons,List.map_cons,J6];rw [if_pos ⟨O,by omega⟩];exact Z
  ·rw [aa,Nat.succ_mul];have:=NR cells (st*n) v.cells.toList (by simp [O];omega);rw [show v.cells.toList.length=n by simp [O]] at this;rw [this];simp
def Ke{α:Type}(pp:Rp α)(E:LH):List α->Lv_->Prop
 | [],[]=>True
 | x::xs,v::vs=>pp.r E v.cells.toList x/\Ke pp E xs vs
 | _,_=>False
theorem Ke.at{E:LH}{α:Type}{pp:Rp α}:∀{xs:List α} {vs:Lv_},Ke pp E xs vs->∀(i:Nat) x v,xs[i]? =some x->vs[i]? =some v->pp.r E v.cells.toList x
 | [],_,_,_,_,_,h,_=>by simp at h
 | _::_,[],h,_,_,_,_,_=>h.elim
 | x::xs,v::vs,h,0,y,u,K,hu=>by simp at K hu;subst K hu;exact h.1
 | x::xs,v::vs,h,i+1,y,u,K,hu=>Ke.at h.2 i y u (by simpa using K) (by simpa using hu)
theorem SO{E0:LH}{ρ:Operand->Value}{K:Next->St->Prop}(aj:EP L ρ){α:Type}{pp:Rp α}{len:Nat}{Y:Array (Nat×Operand)}(vs:Lv_){z:Value}(xs:List α)
  (ak:P.underlying t=some (.slice e)) (al:Bm P e=some pp.n) (am:zeroOf P e=some z) (an:decide (0<len*pp.n/\len*pp.n<=2 ^ 24)=true)
  (ao:Y.toList.mapM (λq=>(ev L q.2).map λv=>(q.1,v))=some ((vs.zipIdx 0).map λq=>(q.2,q.1)))
  (U:vs.length=len) (V:xs.length=len) (ap:Ke pp E0 xs vs) (aq:An E H S)
  (h:∀r seg,OL e pp E0 (some ⟨r,0,none⟩) len seg xs->An E H (S++ [seg])->K (.value (.slice (some ⟨r,0,none⟩) xs.length len)) (Ak E H (S++ [seg]))):
  lp P (execOp ρ ⟨d,.buildSlice t len Y,ty,p,af,g⟩) (Ak E H S) K (λ_ _=>False):=by
 have ac:=ap.at;have ar:(Y.map λ(j,x)=>(j,ρ x)).toList=(vs.zipIdx 0).map λq=>(q.2,q.1):=by
  have key:∀(l:List (Nat×Operand)) (vs:List (Nat×Value)),l.mapM (λq=>(ev L q.2).map λv=>(q.1,v))=some vs->l.map (λ(j,x)=>(j,ρ x))=vs:=by
   intro l
   induction l with
   | nil=>intro vs h;simp at h;subst h;rfl
   | cons q l Z=>
    intro vs h;simp only [List.mapM_cons,bind] at h;cases aa:ev L q.2 with
    | none=>rw [aa] at h;simp at h
    | some w=>
     rw [aa] at h;simp only [Option.map_some,Option.bind_some] at h;obtain⟨au,av,ae⟩:=bind_some h;simp at ae;subst ae;simp [Z au av,aj _ _ aa]
  rw [Array.toList_map];exact key _ _ ao
 have ag:∀v∈vs,v.cells.size=pp.n:=λv O=>by
  obtain⟨i,hi⟩:=List.mem_iff_getElem?.1 O;have aw:i<xs.length:=by rw [V,← U];exact(List.getElem?_eq_some_iff.1 hi).1
  simpa using pp.len (ac i _ v (List.getElem?_eq_getElem aw) hi)
 rw [Oh];refine Av _ _ ?_;unfold Instr.buildSlice;refine Av _ _ (Cp ak ?_);refine Av _ _ (Ex al ?_);have aA:=of_decide_eq_true an;rw [if_neg (by omega),if_neg (by omega)];refine Av (x:=zeroValue e) _ (Hd am ?_);rw [HJ,ar];obtain⟨cells,ay,ab⟩:=QB vs 0 ((Array.range (len*pp.n)).map (z.cells[· % z.cells.size]!)) ag (by simp [U]);simp only [fill_eq,ay];simp only [Nat.zero_mul,List.take_zero,List.nil_append] at ab;refine Av _ _ (Ih aq λr ah=>?_);rw [(EX ah).1];have ai:cells.size=len*pp.n:=by
  have:cells.toList.length=len*pp.n:=by
   rw [ab];have:∀(vs:Lv_),(∀v∈vs,v.cells.size=pp.n)->(vs.map (·.cells.toList)).flatten.length=vs.length*pp.n:=by
    intro vs
    induction vs with
    | nil=>intro _;simp
    | cons v vs Z=>intro h;rw [List.map_cons,List.flatten_cons,List.length_append,Z λw hw=>h w (List.mem_cons_of_mem _ hw),List.length_cons,Nat.succ_mul,Nat.add_comm];simp [h v (by simp)]
   rw [this vs ag,U]
  simpa using this
 have:=h r [(r,.cells cells e (0,0))] ⟨vs.map (·.cells.toList),.inr ⟨r,cells,rfl,rfl,ai,by omega,by rw [← ab,List.take_of_length_le (by simp [ai,V])]⟩,by simp [U,V],λi x ws az hw=>by
  rw [List.getElem?_map] at hw
  cases O:vs[i]? with
  | none=>rw [O] at hw;cases hw
  | some v=>rw [O] at hw;cases hw;exact ac i x v az O⟩ (EX ah).2
 rw [V] at this;exact this
theorem Fg{α:Type}{pp:Rp α}{len:Nat}{K:Array (Nat×Operand)}(vs:Lv_){z:Value}(xs:List α)
  (O:ops[i]? =some ⟨d,.buildSlice t len K,ty,p,af,g⟩) (hw:AT L ops ⟨d,.buildSlice t len K,ty,p,af,g⟩=some true) (U:BK b n ⟨d,.buildSlice t len K,ty,p,af,g⟩=true)
  (V:P.underlying t=some (.slice e)) (Y:Bm P e=some pp.n) (Z:zeroOf P e=some z) (aa:decide (0<len*pp.n/\len*pp.n<=2 ^ 24)=true)
  (ab:K.toList.mapM (λq=>(ev L q.2).map λv=>(q.1,v))=some ((vs.zipIdx 0).map λq=>(q.2,q.1)))
  (ac:vs.length=len) (ae:xs.length=len) (ag:Ke pp E xs vs) (ah:An E H S)
  (h:∀r seg,OL e pp E (some ⟨r,0,none⟩) len seg xs->An E H (S++ [seg])->JL J Q b n (Ax L d (.slice (some ⟨r,0,none⟩) xs.length len)) ds (.inRegion ops rest::k) cs (Ak E H (S++ [seg]))):
  JL J Q b n L ds (.inRegion ops (i::rest)::k) cs (Ak E H S):=by
 exact JL.op O hw U λρ ai=>SO ai vs xs V Y Z aa ab ac ae ag ah h
theorem OL.get{α:Type}{pp:Rp α}{a:Option Addr}{c:Nat}{seg:Seg}{xs:List α}{m:Nat}{x:α}(Y:OL e pp E a c seg xs)(hm:xs[m]? =some x):
  ∃bk f ws,a=some ⟨bk,0,none⟩/\seg= [(bk,.cells f e (0,0))]/\pp.r E ws x/\(∀j w,ws[j]? =some w->f[m*pp.n+j]? =some w)/\(m+1)*pp.n<=f.size/\
   ∀(x':α) (ws':Lv_),pp.r E ws' x'->OL e pp E a c [(bk,.cells (Bb f (m*pp.n) ws') e (0,0))] (xs.set m x'):=by
 obtain⟨wss,Y,ac,Z⟩:=Y;have ae:m<xs.length:=(List.getElem?_eq_some_iff.1 hm).1;rcases Y with⟨aa,ag,_⟩ | ⟨bk,f,aa,ag,an,ah,ai⟩
 ·omega
 have hw:wss[m]? =some wss[m]:=List.getElem?_eq_getElem (by omega);have aj:=HN ac Z;have hle:(m+1)*pp.n<=xs.length*pp.n:=Nat.mul_le_mul_right _ ae;have aq:xs.length*pp.n<=c*pp.n:=Nat.mul_le_mul_right _ ah;refine⟨bk,f,wss[m],aa,ag,Z m x _ hm hw,λj w K=>?_,by omega,λx' ws' ak=>?_⟩
 ·have:=JN aj hw j w K;rw [ai,List.getElem?_take] at this;split at this
  ·simpa using this
  ·cases this
 ·have al:ws'.length=pp.n:=pp.len ak;refine⟨wss.set m ws',.inr ⟨bk,_,aa,rfl,by rw [Lc];exact an,by simpa using ah,?_⟩,by simpa using ac,λi y us V hu=>?_⟩
  ·simp only [List.length_set];have key:∀(wss:List (Lv_)) (m:Nat) (hm:m<wss.length),(∀ws∈wss,ws.length=pp.n)->∀j,(wss.set m ws').flatten[j]? =if m*pp.n<=j/\j<(m+1)*pp.n then ws'[j - m*pp.n]? else wss.flatten[j]? :=by
    intro wss
    induction wss with
    | nil=>intro m hm;simp at hm
    | cons us wss ab=>
     intro m hm am j;have hu:us.length=pp.n:=am us (by simp);cases m with
     | zero=>
      simp only [List.set_cons_zero,List.flatten_cons,Nat.zero_mul,Nat.zero_le,true_and,Nat.zero_add,Nat.one_mul,Nat.sub_zero];split
      ·rename_i K;rw [List.getElem?_append_left (by omega)]
      ·rename_i K;rw [List.getElem?_append_right (by omega),List.getElem?_append_right (by omega),al,hu]
     | succ m=>
      simp only [List.set_cons_succ,List.flatten_cons];have O:(m+1)*pp.n=m*pp.n+pp.n:=Nat.succ_mul _ _;have e2:(m+1+1)*pp.n=(m+1)*pp.n+pp.n:=Nat.succ_mul _ _;rcases Nat.lt_or_ge j us.length with K | K
      ·rw [List.getElem?_append_left K,List.getElem?_append_left K,if_neg (by omega)]
      ·rw [List.getElem?_append_right K,List.getElem?_append_right K,ab m (by simpa using hm) (λws ao=>am ws (List.mem_cons_of_mem _ ao))];by_cases U:m*pp.n<=j - us.length/\j - us.length<(m+1)*pp.n
       ·rw [if_pos U,if_pos (by omega)];congr 1;omega
       ·rw [if_neg U,if_neg (by omega)]
   have ap:∀(vs:Lv_) (c:Av_) (off:Nat),off+vs.length<=c.size->∀j,(Bb c off vs)[j]? =if off<=j/\j<off+vs.length then vs[j - off]? else c[j]? :=by
    intro vs
    induction vs with
    | nil=>intro c off _ j;simp [Bb];omega
    | cons w vs ab=>
     intro c off U j;simp only [Bb,List.length_cons] at*;rw [ab _ _ (by simp;omega)];by_cases O:j=off
     ·subst O;rw [if_neg (by omega),if_pos (by omega),Nat.sub_self,List.getElem?_cons_zero,Array.getElem?_setIfInBounds_self_of_lt (by omega)]
     ·by_cases e2:off+1<=j/\j<off+1+vs.length
      ·rw [if_pos e2,if_pos (by omega)];have:j - off=(j - (off+1))+1:=by omega
       rw [this];simp
      ·rw [if_neg e2,if_neg (by omega),Array.getElem?_setIfInBounds_ne (by omega)]
   apply List.ext_getElem?;intro j;have O:(m+1)*pp.n=m*pp.n+pp.n:=Nat.succ_mul _ _;have t1:(Bb f (m*pp.n) ws').toList[j]? =(Bb f (m*pp.n) ws')[j]? :=Array.getElem?_toList;have t2:f.toList[j]? =f[j]? :=Array.getElem?_toList;rw [key wss m (by omega) aj,List.getElem?_take,t1,ap ws' f (m*pp.n) (by omega),ai,List.getElem?_take,t2,al];by_cases U:m*pp.n<=j/\j<(m+1)*pp.n
   ·rw [if_pos U,if_pos (by omega),if_pos (by omega)]
   ·rw [if_neg U,if_neg (show ¬(m*pp.n<=j/\j<m*pp.n+pp.n) by omega)]
  ·rw [List.getElem?_set] at V hu;by_cases O:m=i
   ·subst O;rw [if_pos rfl,if_pos ae] at V;rw [if_pos rfl,if_pos (by omega)] at hu;cases V;cases hu;exact ak
   ·rw [if_neg O] at hu V;exact Z i y us V hu
theorem Ms{α:Type}{pp:Rp α}{a:Option Addr}{c:Nat}{seg:Seg}{xs:List α}{xv:α}{m:Int}(j:Nat)(O:OL e pp E a c seg xs)(hm:ix xs m=some xv)(U:S[j]? =some seg)
  (V:ops[i]? =some ⟨d,.indexAddr t x y,ty,p,af,g⟩) (hw:AT L ops ⟨d,.indexAddr t x y,ty,p,af,g⟩=some true) (Y:BK b n ⟨d,.indexAddr t x y,ty,p,af,g⟩=true)
  (Z:ev L x=some (.slice a xs.length c)) (aa:ev L y=some (.int kd m)) (ab:P.underlying t=some (.slice e)) (ac:Bm P e=some pp.n)
  (h:∀bk o f ws,S[j]? =some [(bk,.cells f e (0,0))]->pp.r E ws xv->(∀j w,ws[j]? =some w->f[o+j]? =some w)->o+pp.n<=f.size->(∀(x':α) (ws':Lv_),pp.r E ws' x'->OL e pp E a c [(bk,.cells (Bb f o ws') e (0,0))] (xs.set m.toNat x'))->o=m.toNat*pp.n->a=some ⟨bk,0,none⟩->
   JL J Q b n (Ax L d (.pointer (some ⟨bk,o,none⟩))) ds (.inRegion ops rest::k) cs (Ak E H S)):
  JL J Q b n L ds (.inRegion ops (i::rest)::k) cs (Ak E H S):=by
 obtain⟨m,rfl,hm⟩:=Ge hm;have al:m<xs.length:=(List.getElem?_eq_some_iff.1 hm).1;obtain⟨bk,f,ws,rfl,rfl,ae,ag,ah,ai⟩:=OL.get O hm;have aj:(m+1)*pp.n=m*pp.n+pp.n:=Nat.succ_mul _ _;have ak:m*pp.n+pp.n<=f.size:=by rw [← aj];exact ah
 refine Ao (v:= .pointer (some ⟨bk,m*pp.n,none⟩)) V hw Y (λρ K=>?_) (h bk (m*pp.n) f ws U ae ag ak (by simpa using ai) (by simp) rfl);have:=Mh (P:=P) (s:=Ak E H S) (d:=d) (ty:=ty) (p:=p) (af:=af) (g:=g) ab ac (K x _ Z) (K y _ aa) ⟨by omega,by omega⟩;rw [DR rfl] at this;simpa using this
end
end Pal
namespace Pal
open Go Go.Conc
section
variable {P:Program}{J:Judge P}{Q:Gs_}{b:Frame}{n:Nat}{ds:Ld_}{ops:Ao_}{k:Li_}{cs:Lf_}{L:Env}{s:St}{E E' H:LH}{S:List Seg}
variable {d:Option Tmp}{x y:Operand}{t u ty e:TypeId}{p:String}{af:Ae_}{g:On_}{v:Value}{i:Nat}{rest:List Nat}{kd:IntKind}
theorem JS.perm{todo:Li_}{S':List Seg}(K:S.flatten.Perm S'.flatten)(O:An E H S)(h:An E H S'->JL J Q b n L ds todo cs (Ak E H S')):JL J Q b n L ds todo cs (Ak E H S):=by
 have U:An E H S':=Nd.perm O K;rw [show Ak E H S=Ak E H S' from EZ O K];exact h U
theorem EB{todo:Li_}{A B:Seg}(j:Nat)(K:S[j]? =some (A++B))(O:An E H S)(h:An E H (S.set j A++ [B])->JL J Q b n L ds todo cs (Ak E H (S.set j A++ [B]))):JL J Q b n L ds todo cs (Ak E H S):=by
 refine JS.perm ?_ O h;have U:=(Ei (seg':=A) K).1;have V:=(Ei (seg':=A) K).2;rw [GO];refine U.trans ?_;have Y:=V.symm.append_right B
 rwa [List.append_assoc] at Y
theorem JS.swap{todo:Li_}{A B:Seg}(j l:Nat)(O:S[j]? =some A)(U:S[l]? =some B)(V:(j==l)=false)(Y:An E H S)(h:An E H ((S.set j B).set l A)->JL J Q b n L ds todo cs (Ak E H ((S.set j B).set l A))):JL J Q b n L ds todo cs (Ak E H S):=by
 have K:j≠l:=by simpa using V
 refine JS.perm ?_ Y h;have a1:=(Ei (seg':=B) O).1;have Z:(S.set j [])[l]? =some B:=by rw [List.getElem?_set_ne K];exact U
 have aa:=(Ei (seg':=A) Z).1;have ab:((S.set j B).set l A)[l]? =some A:=by
  have:l<(S.set j B).length:=by rw [List.length_set];exact(List.getElem?_eq_some_iff.1 U).1
  rw [List.getElem?_set,if_pos rfl,if_pos this]
 have c1:=(Ei (seg':=A) ab).1;rw [List.set_set] at c1;have ac:((S.set j B).set l [])[j]? =some B:=by
  have:j<S.length:=(List.getElem?_eq_some_iff.1 O).1;rw [List.getElem?_set_ne (Ne.symm K)];simp [this]
 have c2:=(Ei (seg':=B) ac).1;have ae:(((S.set j B).set l []).set j [])=((S.set j []).set l []):=by
  rw [List.set_comm _ _ K,List.set_set,List.set_comm _ _ K.symm]
 rw [ae] at c2;exact a1.trans ((aa.append_right A).trans ((c2.symm.append_right A).trans c1.symm))
theorem Cu{bk off:Nat}{c:Av_}{f:Nat×Nat}{vs:Lv_}{seg:Seg}(j:Nat)(K:An E H S)(O:S[j]? =some ((bk,.cells c e f)::seg))(U:(c.toList.drop off).take vs.length=vs):∀i v,vs[i]? =some v->(Ak E H S).cell? (Addr.add ⟨bk,off,none⟩ i)=some v:=
 Ui K O λi v hi=>by
  have V:i<vs.length:=(List.getElem?_eq_some_iff.1 hi).1
  rw [← U,List.getElem?_take_of_lt V,List.getElem?_drop,Array.getElem?_toList] at hi
  exact hi
theorem Lg(vs:Lv_):∀(c:Av_) (off:Nat),off+vs.length<=c.size->∀j,(Bb c off vs)[j]? =if off<=j/\j<off+vs.length then vs[j - off]? else c[j]? :=by
 induction vs with
 | nil=>intro c off _ j;simp [Bb];omega
 | cons w vs K=>
  intro c off U j;simp only [Bb,List.length_cons] at*;rw [K _ _ (by simp;omega)];by_cases O:j=off
  ·subst O;rw [if_neg (by omega),if_pos (by omega),Nat.sub_self,List.getElem?_cons_zero,Array.getElem?_setIfInBounds_self_of_lt (by omega)]
  ·by_cases e2:off+1<=j/\j<off+1+vs.length
   ·rw [if_pos e2,if_pos (by omega)];have:j - off=(j - (off+1))+1:=by omega
    rw [this];simp
   ·rw [if_neg e2,if_neg (by omega),Array.getElem?_setIfInBounds_ne (by omega)]
end
end Pal
namespace Pal
open Go Go.Conc
theorem elim_inl{α β K:Type}{f:α->Option K}{g:β->Option K}{x:α}{r:K}(h:Sum.elim f g (.inl x)=some r):f x=some r:=h
theorem elim_inr{α β K:Type}{f:α->Option K}{g:β->Option K}{x:β}{r:K}(h:Sum.elim f g (.inr x)=some r):g x=some r:=h
def room{α:Type}(xs:List α)(x:α):Option (List α):=if xs.length+1<=2 ^ 40 then some (xs++ [x]) else none
theorem UF{α:Type}{xs ys:List α}{x:α}(h:room xs x=some ys):xs.length+1<=2 ^ 40/\ys=xs++ [x]:=by
 unfold room at h;split at h
 ·rename_i hb;exact⟨hb,(Option.some.inj h).symm⟩
 ·cases h
def Nl(a b:Int):Option Int:=if b=0 then none else some (a.tmod b)
def Nb(a b:Nat):Option Nat:=if b=0 then none else some (a % b)
section
variable {P:Program}{s:St}{ρ:Operand->Value}{x y z:Operand}{d:Option Tmp}{t u ty e:TypeId}{p:String}{af:Ae_}{g:On_}{v:Value}{kd kd':IntKind}{m m':Int}{a b:Nat}
theorem Wl{r:Int}(K:ρ x=iV m)(O:ρ y=iV m')(h:Nl m m'=some r):Yl P ⟨d,.binOp .rem t x y u,ty,p,af,g⟩ ρ s (iV r):=by
 unfold Nl at h;split at h
 ·cases h
 ·rename_i U;cases h;exact Yl.rem K O U
theorem VR{r:Nat}(K:ρ x= .int .u64 (a:Int))(O:ρ y= .int .u64 (b:Int))(h:Nb a b=some r):Yl P ⟨d,.binOp .rem t x y u,ty,p,af,g⟩ ρ s (.int .u64 (r:Int)):=by
 unfold Nb at h;split at h
 ·cases h
 ·rename_i U;cases h;exact V5 K O U
theorem Yl.min2{ats:Array TypeId}(K:ρ x=iV m)(O:ρ y=iV m'):Yl P ⟨d,.call ⟨.builtin .min,#[x,y],ats⟩,ty,p,af,g⟩ ρ s (iV (min m m')):=by
 have e:(if m'<m then m' else m)=min m m':=by split <;> omega
 simp [Yl,execOp,lp,pure,bind,Sem.bind,K,O,resolve,invoke,builtin,Builtin.min_,Builtin.min2,e]
theorem Yl.max2{ats:Array TypeId}(K:ρ x=iV m)(O:ρ y=iV m'):Yl P ⟨d,.call ⟨.builtin .max,#[x,y],ats⟩,ty,p,af,g⟩ ρ s (iV (max m m')):=by
 have e:(if m<m' then m' else m)=max m m':=by split <;> omega
 simp [Yl,execOp,lp,pure,bind,Sem.bind,K,O,resolve,invoke,builtin,Builtin.max_,Builtin.max2,e]
end
def KZ(P:Program):List Field->List (Nat×Nat)->Prop
 | f::K,(o,n)::O=>f.offset=o/\Bm P f.type=some n/\KZ P K O
 | [],[]=>True
 | _,_=>False
theorem KZ.mapM{P:Program}:∀{K:List Field} {O:List (Nat×Nat)},KZ P K O->K.mapM (λf=>(Bm P f.type).map λn=>(f.offset,n))=some O
 | [],[],_=>rfl
 | [],_::_,h=>h.elim
 | _::_,[],h=>h.elim
 | f::K,(o,n)::O,h=>by
  obtain⟨U,V,Y⟩:=h
  simp only [List.mapM_cons,bind,V,Option.map_some,Option.bind_some,KZ.mapM Y,U];rfl
theorem Od{L:Env}{ρ:Operand->Value}(h:EP L ρ):∀{l:List (Nat×Operand)} {vs:List (Nat×Value)},l.mapM (λq=>(ev L q.2).map λv=>(q.1,v))=some vs->l.map (λ(j,x)=>(j,ρ x))=vs
 | [],vs,e=>by simp at e;subst e;rfl
 | q::l,vs,e=>by
  simp only [List.mapM_cons,bind] at e
  cases K:ev L q.2 with
  | none=>rw [K] at e;simp at e
  | some w=>
   rw [K] at e
   simp only [Option.map_some,Option.bind_some] at e
   obtain⟨V,U,O⟩:=bind_some e
   simp at O;subst O
   simp [Od h U,h _ _ K]
theorem CK{P:Program}{s:St}{ρ:Operand->Value}{L:Env}{d:Option Tmp}{t ty:TypeId}{p:String}{af:Ae_}{g:On_}{z:Value}{K:Array Field}{O:Array (Nat×Operand)}{vs:List (Nat×Value)}{cells:Av_}(places:List (Nat×Nat))(h:EP L ρ)(U:zeroOf P t=some z)(V:P.underlying t=some (.struct K))(Y:KZ P K.toList places)
  (Z:O.toList.mapM (λq=>(ev L q.2).map λv=>(q.1,v))=some vs) (aa:J6 (places.toArray[·]?) z.cells vs=some cells):Yl P ⟨d,.build t O,ty,p,af,g⟩ ρ s (.agg cells):=
 Yl.build (places:=places.toArray) U V (by simpa using Y.mapM) (Od h Z) (by rw [fill_eq];exact aa)
theorem OL.again{α:Type}{e:TypeId}{pp:Rp α}{E:LH}{a:Option Addr}{bk c o:Nat}{f:Av_}{xs:List α}{m:Int}{x:α}(O:OL e pp E a c [(bk,.cells f e (0,0))] xs)(hm:ix xs m=some x)(U:o=m.toNat*pp.n):
  ∃ws,pp.r E ws x/\(∀j w,ws[j]? =some w->f[o+j]? =some w)/\o+pp.n<=f.size/\∀(x':α) (ws':Lv_),pp.r E ws' x'->OL e pp E a c [(bk,.cells (Bb f o ws') e (0,0))] (xs.set m.toNat x'):=by
 obtain⟨m,rfl,hm⟩:=Ge hm;obtain⟨ae,ag,ws,ah,K,V,Y,Z,aa⟩:=OL.get O hm;simp only [List.cons.injEq,Prod.mk.injEq,Obj.cells.injEq,and_true] at K;obtain⟨rfl,rfl⟩:=K;have ab:(m+1)*pp.n=m*pp.n+pp.n:=Nat.succ_mul _ _;have ac:o=m*pp.n:=by simpa using U
 subst ac;exact⟨ws,V,Y,by rw [← ab];exact Z,by simpa using aa⟩
section
variable {P:Program}{J:Judge P}{Q:Gs_}{b:Frame}{n:Nat}{ds:Ld_}{ops:Ao_}{k:Li_}{cs:Lf_}{L:Env}{s:St}{E E' H:LH}{S:List Seg}
variable {d:Option Tmp}{x y:Operand}{t u ty e:TypeId}{p:String}{af:Ae_}{g:On_}{v:Value}{i:Nat}{rest:List Nat}{kd:IntKind}
theorem JS.app{α:Type}{pp:Rp α}{t1 t2:TypeId}{K c:Nat}{a:Option Addr}{seg:Seg}{xs ys:List α}{xv:α}{Y:Nat}{d1:Tmp}{ats:Array TypeId}{O:TypeId}{U:String}{V:Ae_}{g':On_}{z:Value}(j:Nat)(ab:room xs xv=some ys)
  (ac:ops[i]? =some ⟨some d1,.buildSlice t2 1 #[(0,y)],O,U,V,g'⟩) (hw:AT L ops ⟨some d1,.buildSlice t2 1 #[(0,y)],O,U,V,g'⟩=some true) (ae:BK b n ⟨some d1,.buildSlice t2 1 #[(0,y)],O,U,V,g'⟩=true)
  (ag:ops[Y]? =some ⟨d,.call ⟨.builtin .append,#[x,.tmp d1],ats⟩,ty,p,af,g⟩) (ah:∀w,AT (Ax L (some d1) w) ops ⟨d,.call ⟨.builtin .append,#[x,.tmp d1],ats⟩,ty,p,af,g⟩=some true) (ai:BK b n ⟨d,.call ⟨.builtin .append,#[x,.tmp d1],ats⟩,ty,p,af,g⟩=true)
  (aj:∀w,ev (Ax L (some d1) w) x=some (.slice a xs.length c)) (ak:ev L y=some v) (al:ats[0]? =some t) (am:ats[1]? =some t1) (an:P.underlying t=some (.slice e)) (ao:P.underlying t1=some (.slice e)) (ap:P.underlying t2=some (.slice e)) (aq:Bm P e=some pp.n) (hb:Fp P e=some K) (ar:zeroOf P e=some z) (au:z.cells.size=pp.n)
  (av:0<K) (aw:K<=64) (ay:0<pp.n) (az:pp.n<=64) (aA:OL e pp E a c seg xs) (aB:pp.r E v.cells.toList xv) (aC:An E H S) (aD:S[j]? =some seg)
  (h:∀w Z aa seg',OL e pp E Z aa seg' ys->An E H (S.set j seg')->JL J Q b n (Ax (Ax L (some d1) w) d (.slice Z ys.length aa)) ds (.inRegion ops rest::k) cs (Ak E H (S.set j seg'))):
  JL J Q b n L ds (.inRegion ops (i::Y::rest)::k) cs (Ak E H S):=by
 obtain⟨aE,rfl⟩:=UF ab;exact Ua j ac hw ae ag ah ai aj ak al am an ao ap aq hb ar au av aw ay az aE aA aB aC aD h
theorem AQ{todo:Li_}{S':List Seg}(K:S=S')(O:An E H S)(h:An E H S'->JL J Q b n L ds todo cs (Ak E H S')):JL J Q b n L ds todo cs (Ak E H S):=by
 subst K;exact h O
theorem Qp{todo:Li_}(K:An E H S)(h:An E H (S++ [[]])->JL J Q b n L ds todo cs (Ak E H (S++ [[]]))):JL J Q b n L ds todo cs (Ak E H S):=
 HO (S':=S++ [[]]) (by rw [GO,List.append_nil]) K h
end
end Pal
namespace Pal
open Go Go.Conc
theorem EH.K1{P:Program}{J:Judge P}{f:FuncId}{args:Av_}{s:St}{R:Value->St->Prop}(h:EH J f args s R)(U:∀v s',R v s'->s'.q=false):EH J f args s (λv s'=>R v s'/\∃w,Fits s' w):=λQ c cs V=>
 h Q c cs λv s' K=>by
  by_cases O:∃w,Fits s' w
  ·exact V v s' ⟨K,O⟩
  ·exact J.step ⟨rfl,λw f=>absurd ⟨w,f⟩ O,λe=>by have:=U v s' K;subst e;cases this⟩
def AY(l:List Nat):Nat->Bool:=λx=>l.contains x
section
variable {P:Program}{J:Judge P}{Q:Gs_}{b:Frame}{n:Nat}{ds:Ld_}{ops:Ao_}{k:Li_}{cs:Lf_}{m fuel:Nat}{D:Nat->Bool}{listed:Array Bool}{L:Env}{s:St}{E E' H:LH}{S:List Seg}
variable {d:Option Tmp}{x y:Operand}{t u ty e:TypeId}{p:String}{af:Ae_}{g:On_}{v:Value}{i:Nat}{kd:IntKind}
def F2(ops:Ao_)(listed:Array Bool)(m i:Nat):Bool:=match ops[i]? with
 | some oi=>decide (i<m)&&Region.noSelect ops&& !DK oi.op&&Ip ops listed i oi&&Hp ops listed&&listed.size==ops.size&&(Region.ready .any ops listed).contains i
 | none=>false
theorem IN(m:Nat){id:Nat}(hm:P.follows .mixedOrders=true)(K:(b.kind != .early)=true)
  (O:DU ops m=true) (h:DU ops m=true->AL J Q b n ds ops k cs m CL ops.size (Array.replicate ops.size false) L (Ak E H S)):JL J Q b n L ds (.code (.region id ops true)::k) cs (Ak E H S):=
 Om m CL rfl hm K (h O)
theorem Qu{oi:Oper}{i:Nat}(hi:ops[i]? =some oi)(K:F2 ops listed m i=true):decide (i<m)=true/\Region.noSelect ops=true/\(!DK oi.op)=true/\Ip ops listed i oi=true/\Hp ops listed=true/\(listed.size==ops.size)=true/\(Region.ready .any ops listed).contains i=true:=by
 simp only [F2,hi,Bool.and_eq_true] at K;obtain⟨⟨⟨⟨⟨⟨O,U⟩,V⟩,Y⟩,Z⟩,aa⟩,ab⟩:=K;exact⟨O,U,V,Y,Z,aa,ab⟩
theorem JG.val{oi:Oper}(i:Nat)(hi:ops[i]? =some oi)(K:DU ops m=true)(O:F2 ops listed m i=true)(U:s.q=false)
  (hw:AT L ops oi=some true) (V:Bh n oi.dst=true) (Y:∀ρ,EP L ρ->∀s':St,(∀x o,(Bx D s).E x=some o->s'.E x=some o)->Yl P oi ρ s' v)
  (h:AL J Q b n ds ops k cs m D fuel (Ba listed i) (Ax L oi.dst v) s):AL J Q b n ds ops k cs m D (fuel+1) listed L s:=
 let ⟨Z,aa,ab,ac,ae,ag,ah⟩:=Qu hi O
 Us hi Z K aa ab ac ae ag ah U hw V (λρ ai s' _ aj=>Y ρ ai s' aj) h
theorem YB{oi:Oper}(i:Nat)(hi:ops[i]? =some oi)(K:DU ops m=true)(O:F2 ops listed m i=true)(U:s.q=false)
  (hw:AT L ops oi=some false) (V:Bh n oi.dst=true)
  (h:AL J Q b n ds ops k cs m D fuel (Ba listed i) (Ax L oi.dst undef) s):AL J Q b n ds ops k cs m D (fuel+1) listed L s:=
 let ⟨Y,Z,aa,ab,ac,ae,ag⟩:=Qu hi O
 Un hi Y K Z aa ab ac ae ag U hw V h
theorem MT{α:Type}{pp:Rp α}{a:Option Addr}{c:Nat}{xs:List α}{xv:α}{K:Int}(i:Nat)(V:Am pp E a c xs)(O:ix xs K=some xv)
  (Y:ops[i]? =some ⟨d,.indexAddr t x y,ty,p,af,g⟩) (Z:DU ops m=true) (aa:F2 ops listed m i=true) (ab:s.q=false)
  (hw:AT L ops ⟨d,.indexAddr t x y,ty,p,af,g⟩=some true) (ac:Bh n d=true)
  (ae:ev L x=some (.slice a xs.length c)) (ag:ev L y=some (.int kd K)) (ah:P.underlying t=some (.slice e)) (ai:Bm P e=some pp.n)
  (h:∀bk o ws,pp.r E ws xv->At E bk o ws->AL J Q b n ds ops k cs m D fuel (Ba listed i) (Ax L d (.pointer (some ⟨bk,o,none⟩))) s):
  AL J Q b n ds ops k cs m D (fuel+1) listed L s:=by
 obtain⟨K,rfl,O⟩:=Ge O;have aj:K<xs.length:=(List.getElem?_eq_some_iff.1 O).1;obtain⟨an,⟨rfl,_⟩ | ⟨bk,off,rfl,ak⟩⟩:=V
 ·simp at aj
 obtain⟨ws,al,am⟩:=ak K xv O;refine JG.val (v:= .pointer (some ⟨bk,off+K*pp.n,none⟩)) i Y Z aa ab hw ac (λρ U s' _=>?_) (h bk _ ws al am);have:=Mh (P:=P) (s:=s') (d:=d) (ty:=ty) (p:=p) (af:=af) (g:=g) ah ai (U x _ ae) (U y _ ag) ⟨by omega,by omega⟩;rw [DR rfl] at this;simpa using this
theorem JG.call{f:FuncId}{args:Array Operand}{ats:Array TypeId}{vs:Lv_}{R:Value->LH->Seg->Prop}(V:AP J f vs E [] R)(Y:Region.ready .any ops listed= [i])
  (Z:ops[i]? =some ⟨d,.call ⟨.value (.func f),args,ats⟩,ty,p,af,g⟩) (aa:Bh n d=true) (hw:AT L ops ⟨d,.call ⟨.value (.func f),args,ats⟩,ty,p,af,g⟩=some true) (hb:DI P f=true) (ab:evs L args.toList=some vs) (ac:An E H S)
  (ae:∀v E' seg',Le E E'->R v E' seg'->An E' H (S++ [seg'])->AL J Q b n ds ops k cs m CL fuel (Ba listed i) (Ax L d v) (Ak E' H (S++ [seg']))):
  AL J Q b n ds ops k cs m CL (fuel+1) listed L (Ak E H S):=by
 have ag:=EH.K1 (V (Bi S.flatten H) trivial) (by rintro v s' ⟨E',B',_,_,_,rfl⟩;rfl);refine AL.call rfl Y Z aa hw hb ab ag ?_;rintro v an ⟨⟨E',B',hle,ah,ai,rfl⟩,w,aj⟩;have e2:mk E' (Bi S.flatten H) B'=mk E' H (B'++S.flatten):=by unfold mk;rw [FM]
 have ak:Nd E' H S.flatten:=Nd.grow ac λx K=>by
  have al:=aj.d x K;have am:Bi B' (Bi S.flatten H) x=none:=al;exact(HI am).1
 have O:Nd E' H (B'++S.flatten):=Nd.glue ai ak;have U:(B'++S.flatten).Perm (S++ [B']).flatten:=by rw [GO];exact List.perm_append_comm
 rw [e2,EZ O U];exact⟨rfl,λx o K=>hle x o K,ae v E' B' hle ah (Nd.perm O U)⟩
end
end Pal
namespace Pal
open Go Go.Conc
theorem MP{E H:LH}{S:List Seg}{j bk:Nat}{o:Obj}{seg:Seg}(K:An E H S)(O:S[j]? =some ((bk,o)::seg)):E bk=none:=by
 have hm:(bk,o)∈S.flatten:=List.mem_flatten.2 ⟨_,List.mem_of_getElem? O,by simp⟩;exact((Nd.iff.1 K).2 _ hm).1
end Pal
namespace Pal
open Go Go.Conc
def Jg{α:Type}(n:Int)(z:α):Option (List α):=if 0<=n/\n<=2 ^ 20 then some (List.replicate n.toNat z) else none
def Cr{α:Type}(xs ys:List α):Option (List α):=if xs.length+ys.length<=2 ^ 40 then some (xs++ys) else none
def H2{α:Type}(xs:List α)(lo hi:Int):Option (List α):=if 0<=lo/\lo<=hi/\hi<=xs.length then some ((xs.take hi.toNat).drop lo.toNat) else none
section
variable {P:Program}{s:St}{ρ:Operand->Value}{x y z:Operand}{d:Option Tmp}{t u ty e:TypeId}{p:String}{af:Ae_}{g:On_}{v:Value}{kd kd':IntKind}{m m':Int}{a b:Nat}
end
section
variable {P:Program}{J:Judge P}{Q:Gs_}{b:Frame}{n:Nat}{ds:Ld_}{ops:Ao_}{k:Li_}{cs:Lf_}{L L':Env}{s:St}{E E' H:LH}{S:List Seg}
variable {d:Option Tmp}{x y:Operand}{t u ty e:TypeId}{p:String}{af:Ae_}{g:On_}{v:Value}{i:Nat}{rest:List Nat}{kd:IntKind}
theorem UH{ρ:Operand->Value}:execOp ρ ⟨d,.makeSlice t x y,ty,p,af,g⟩=(do pure (Next.value (← Instr.makeSlice t (ρ x) (ρ y)))):=by
 simp only [execOp]
theorem NU{α:Type}(w:List α):∀m:Nat,((List.replicate m w).flatten).length=m*w.length
 | 0=>by simp
 | m+1=>by rw [List.replicate_succ,List.flatten_cons,List.length_append,NU w m,Nat.succ_mul,Nat.add_comm]
theorem Vz(z:Av_)(O:0<z.size):∀m:Nat,((Array.range (m*z.size)).map (z[· % z.size]!)).toList=(List.replicate m z.toList).flatten:=by
 intro m;apply List.ext_getElem?;intro j;simp only [Array.toList_map,Array.toList_range,List.getElem?_map];by_cases K:j<m*z.size
 ·rw [List.getElem?_range K];have V:j / z.size<m:=(Nat.div_lt_iff_lt_mul O).2 K;have U:j % z.size<z.size:=Nat.mod_lt _ O;have hw:(List.replicate m z.toList)[j / z.size]? =some z.toList:=by simp [V]
  have:=JN (n:=z.size) (wss:=List.replicate m z.toList) (λws Y=>by rw [List.eq_of_mem_replicate Y];simp) hw (j % z.size) z[j % z.size] (by simp [U]);rw [show j / z.size*z.size+j % z.size=j from by rw [Nat.mul_comm];exact Nat.div_add_mod _ _] at this;rw [this];simp [U]
 ·have hlen:((List.replicate m z.toList).flatten).length=m*z.size:=by rw [NU];simp
  rw [List.getElem?_eq_none (by simpa using K),List.getElem?_eq_none (by rw [hlen];omega)];rfl
theorem JS.make{α:Type}{pp:Rp α}{z:Value}{Y:α}{m:Int}{xs:List α}(U:Jg m Y=some xs)
  (ah:ops[i]? =some ⟨d,.makeSlice t x y,ty,p,af,g⟩) (hw:AT L ops ⟨d,.makeSlice t x y,ty,p,af,g⟩=some true) (ai:BK b n ⟨d,.makeSlice t x y,ty,p,af,g⟩=true)
  (aj:ev L x=some (iV m)) (V:ev L y=some (iV m)) (ak:P.underlying t=some (.slice e)) (al:Bm P e=some pp.n) {O:Nat} (hb:Fp P e=some O) (az:O<=64) (am:zeroOf P e=some z) (aA:0<pp.n) (Z:pp.r E z.cells.toList Y) (an:An E H S)
  (h:∀r seg,OL e pp E (some ⟨r,0,none⟩) xs.length seg xs->An E H (S++ [seg])->JL J Q b n (Ax L d (.slice (some ⟨r,0,none⟩) xs.length xs.length)) ds (.inRegion ops rest::k) cs (Ak E H (S++ [seg]))):
  JL J Q b n L ds (.inRegion ops (i::rest)::k) cs (Ak E H S):=by
 unfold Jg at U;split at U
 rotate_left
 ·cases U
 rename_i hm;cases U;refine JL.op ah hw ai λρ aa=>?_;rw [UH,aa x _ aj,aa y _ V];refine Av _ _ ?_;unfold Instr.makeSlice;refine Av _ _ (Cp ak ?_);simp only [asInt,HJ];obtain⟨inf,ao,ap⟩:=Oi hb;refine Av (x:=typeInfo e) _ (JJ ao ?_);simp only [ap,I8 (show -9223372036854775808<=m/\m<=9223372036854775807 by omega)];have aB:(O:Int)*m<=64*2 ^ 20:=by
  have ab:(O:Int)*m<=64*m:=Int.mul_le_mul_of_nonneg_right (by omega) hm.1;omega
 have aq:((decide (m<0) || decide ((O:Int)*m>2 ^ 48)) || decide (m<0) || decide (m>m))=false:=by
  simp only [Bool.or_eq_false_iff,decide_eq_false_iff_not];omega
 rw [aq];simp only [Bool.false_eq_true,if_false];refine Av (x:=askRoom _) _ ?_;have ar:∀{Q:Unit->St->Prop} {X:Halt->St->Prop} (w:Nat),Q () (Ak E H S)->lp P (askRoom w) (Ak E H S) Q X:=by
  intro Q X w ac;unfold askRoom;split
  ·exact⟨.inl ⟨rfl,rfl⟩,ac⟩
  ·exact ac
 refine ar _ (Av (x:=Go.sizeOf e) _ (Ex al ?_));have ae:z.cells.size=pp.n:=by simpa using pp.len Z
 have fin:∀K:Av_,((Array.range (m.toNat*pp.n)).map (K[· % K.size]!)).toList=(List.replicate m.toNat z.cells.toList).flatten->lp P (do let a ← newRow e ((Array.range (m.toNat*pp.n)).map (K[· % K.size]!));pure (Value.slice (some a) m.toNat m.toNat)) (Ak E H S) (λa s'=>lp P (pure (Next.value a)) s' (λau s'=>match au with
   | .value v=>JL J Q b n (Ax L d v) ds (.inRegion ops rest::k) cs s'
   | .skip=>JL J Q b n (Ax L d undef) ds (.inRegion ops rest::k) cs s'
   | _=>False) (λ_ _=>False)) (λ_ _=>False):=by
  intro K av;refine Av _ _ (Ih an λr ag=>?_);rw [(EX ag).1];have aC:((Array.range (m.toNat*pp.n)).map (K[· % K.size]!)).size=m.toNat*pp.n:=by simp
  have:=h r _ ⟨List.replicate m.toNat z.cells.toList,.inr ⟨r,_,rfl,rfl,by simp,by simp,by
   rw [av,List.take_of_length_le (by rw [NU];simp [ae])]⟩,by simp,λi y us V hu=>by
    have:=List.mem_of_getElem? V;have aw:=List.eq_of_mem_replicate this
    have:=List.mem_of_getElem? hu;have e2:=List.eq_of_mem_replicate this
    subst aw e2;exact Z⟩ (EX ag).2
  simp only [List.length_replicate] at this;exact this
 split
 ·rename_i ay;have ab:m.toNat=0:=by rcases Nat.mul_eq_zero.1 ay with h | h <;> omega
  exact fin #[] (by simp [ab])
 ·refine Av (x:=zeroValue e) _ (Hd am ?_);refine fin z.cells ?_;rw [← ae];exact Vz z.cells (by omega) _
theorem Mz{α:Type}{pp:Rp α}(O:ops[i]? =some ⟨d,.buildSlice t 0 #[],ty,p,af,g⟩)(hw:AT L ops ⟨d,.buildSlice t 0 #[],ty,p,af,g⟩=some true)(U:BK b n ⟨d,.buildSlice t 0 #[],ty,p,af,g⟩=true)
  (V:P.underlying t=some (.slice e)) (Y:Bm P e=some pp.n) (Z:An E H S)
  (h:∀r seg,OL e pp E (some ⟨r,0,none⟩) 0 seg []->An E H (S++ [seg])->JL J Q b n (Ax L d (.slice (some ⟨r,0,none⟩) 0 0)) ds (.inRegion ops rest::k) cs (Ak E H (S++ [seg]))):
  JL J Q b n L ds (.inRegion ops (i::rest)::k) cs (Ak E H S):=by
 refine JL.op O hw U λρ ab=>?_;rw [Oh];refine Av _ _ ?_;unfold Instr.buildSlice;refine Av _ _ (Cp V ?_);refine Av _ _ (Ex Y ?_);rw [if_neg (by omega),if_pos (by omega)];refine Av (x:=pure #[]) _ ?_;simp only [lp,pure,List.map_toArray,List.map_nil,Instr.fill];refine Av _ _ (Ih Z λr K=>?_);rw [(EX K).1];exact h r _ ⟨[],.inr ⟨r,_,rfl,rfl,by simp,Nat.le_refl _,by simp⟩,rfl,λi x ws aa=>by simp at aa⟩ (EX K).2
theorem Am.rows{α:Type}{pp:Rp α}{a:Option Addr}{c:Nat}{xs:List α}(U:Am pp E a c xs):∃wss:List (Lv_),wss.length=xs.length/\(∀(i:Nat) x ws,xs[i]? =some x->wss[i]? =some ws->pp.r E ws x)/\
  ((xs= []/\∀ad:Addr,a=some ad->ad.spot=none∨c=0)∨∃bk off,a=some ⟨bk,off,none⟩/\∀(i:Nat) ws,wss[i]? =some ws->At E bk (off+i*pp.n) ws):=by
 obtain⟨aa,U⟩:=U;rcases U with⟨rfl,Y⟩ | ⟨bk,off,rfl,Z⟩
 ·exact⟨[],rfl,λi x ws O=>by simp at O,.inl ⟨rfl,Y⟩⟩
 ·have V:∀i:Fin xs.length,∃ws,pp.r E ws xs[i]/\At E bk (off+i*pp.n) ws:=λi=>Z i xs[i] (List.getElem?_eq_getElem i.2);refine⟨List.ofFn λi=>Classical.choose (V i),by simp,λi x ws O hw=>?_,.inr ⟨bk,off,rfl,λi ws hw=>?_⟩⟩
  ·have K:i<xs.length:=(List.getElem?_eq_some_iff.1 O).1;simp [K] at hw;subst hw;rw [List.getElem?_eq_getElem K] at O;cases O;exact(Classical.choose_spec (V ⟨i,K⟩)).1
  ·have K:i<xs.length:=by have:=(List.getElem?_eq_some_iff.1 hw).1;simpa using this
   simp [K] at hw;subst hw;exact(Classical.choose_spec (V ⟨i,K⟩)).2
theorem Lb{n:Nat}:∀{wss:List (Lv_)},(∀ws∈wss,ws.length=n)->wss.flatten.length=wss.length*n
 | [],_=>by simp
 | ws::wss,h=>by rw [List.flatten_cons,List.length_append,h ws (by simp),Lb λw hw=>h w (List.mem_cons_of_mem _ hw),List.length_cons,Nat.succ_mul,Nat.add_comm]
theorem NX{n:Nat}:∀{wss:List (Lv_)},(∀ws∈wss,ws.length=n)->∀{j:Nat} {w:Value},wss.flatten[j]? =some w->∃(i m:Nat) (ws:Lv_),wss[i]? =some ws/\ws[m]? =some w/\j=i*n+m
 | [],_,_,_,h=>by simp at h
 | us::wss,O,j,w,h=>by
  have hu:=O us (by simp)
  rw [List.flatten_cons] at h
  rcases Nat.lt_or_ge j us.length with K | K
  ·rw [List.getElem?_append_left K] at h
   exact⟨0,j,us,rfl,h,by simp⟩
  ·rw [List.getElem?_append_right K] at h;obtain⟨i,m,ws,U,V,Y⟩:=NX (λws hw=>O ws (List.mem_cons_of_mem _ hw)) h;exact⟨i+1,m,ws,by simpa using U,V,by rw [Nat.succ_mul];omega⟩
theorem Mb{α:Type}{pp:Rp α}{wss O:List (Lv_)}{xs ys:List α}(U:wss.length=xs.length)(h:∀(i:Nat) x ws,xs[i]? =some x->wss[i]? =some ws->pp.r E ws x)(V:∀(i:Nat) x ws,ys[i]? =some x->O[i]? =some ws->pp.r E ws x):
  ∀(i:Nat) y us,(xs++ys)[i]? =some y->(wss++O)[i]? =some us->pp.r E us y:=by
 intro i y us K hu;rcases Nat.lt_or_ge i xs.length with hi | hi
 ·rw [List.getElem?_append_left hi] at K;rw [List.getElem?_append_left (by omega)] at hu;exact h i y us K hu
 ·rw [List.getElem?_append_right hi] at K;rw [List.getElem?_append_right (by omega),U] at hu;exact V _ y us K hu
variable {B0:List (Nat×Obj)}
theorem Ub{e t t1:TypeId}{Y ak l c m:Nat}{a:Option Addr}{blk:List (Nat×Obj)}{xs ys:Lv_}{i:Nat}{rest:List Nat}{d:Option Tmp}{x y:Operand}{ats:Array TypeId}{ty:TypeId}{p:String}{af:Ae_}{g:On_}{z:Value}{ax:Option Addr}{cx:Nat}{B1:List (Nat×Obj)}
  (av:ops[i]? =some ⟨d,.call ⟨.builtin .append,#[x,y],ats⟩,ty,p,af,g⟩) (hw:AT L ops ⟨d,.call ⟨.builtin .append,#[x,y],ats⟩,ty,p,af,g⟩=some true) (aw:BK b n ⟨d,.call ⟨.builtin .append,#[x,y],ats⟩,ty,p,af,g⟩=true)
  (ay:ev L x=some (.slice a l c)) (az:ev L y=some (.slice ax m cx)) (aA:ats[0]? =some t) (aB:ats[1]? =some t1) (aC:P.underlying t=some (.slice e)) (aD:P.underlying t1=some (.slice e)) (aE:Bm P e=some Y) (hb:Fp P e=some ak) (aF:zeroOf P e=some z) (aG:z.cells.size=Y)
  (aH:0<ak) (aI:ak<=64) (aJ:l+m<=2 ^ 40) (aK:∀w∈ys,BT w=true) (ah:GS e Y a l c blk xs) (al:Nd E H (B0++blk++B1)) (am:Hq (mk E H (B0++blk++B1)) (.slice ax m cx) Y ys)
  (h:∀aq ai an,GS e Y aq (l+m) ai an (xs++ys)->Nd E H (B0++an)->JL J Q b n (Ax L d (.slice aq (l+m) ai)) ds (.inRegion ops rest::k) cs (mk E H (B0++an))):
  JL J Q b n L ds (.inRegion ops (i::rest)::k) cs (mk E H (B0++blk++B1)):=by
 refine JL.op av hw aw λρ ar=>?_;rw [K9,ar x _ ay,ar y _ az];have aL:M6 (B0++blk++B1) B0.length e Y a l c xs:=by
  rcases ah with⟨K,V,ab,ac,Z⟩ | ⟨bk,f,K,V,ab,ac,Z⟩
  ·exact .inl ⟨K,V,ab,Z⟩
  ·refine .inr ⟨bk,f,K,?_,ab,ac,Z⟩;subst V;simp
 have hlen:=ah.length;refine Av _ _ (Oj (pl:=B0.length) aA aB aD aC aE hb aF aG al aL am aK aH aJ aI ?_ ?_ ?_)
 ·
  intro bk f O aj aR aS aM ao ap aa;rcases ah with⟨K,_⟩ | ⟨U,f0,K,V,ab,ac,Z⟩
  ·rw [K] at aj;cases aj
  ·subst V;have aN:U=bk:=by rw [K] at aj;simpa using aj
   subst aN;have aO:(B0++ [(U,Obj.cells f0 e (0,0))]++B1).set B0.length (U,.cells O e (0,0))=B0++ [(U,.cells O e (0,0))]++B1:=by
    rw [List.append_assoc,List.append_assoc];exact Im _ _ _ _
   rw [aO] at aa ⊢;have ae:Nd E H (B0++ [(U,.cells O e (0,0))]):=JR.Nd.left aa;refine JL.drop (B0++ [(U,.cells O e (0,0))]) (λp ag=>?_) aa (h a c _ (.inr ⟨U,O,K,rfl,ao,aM,ap.symm⟩) ae);exact List.mem_iff_getElem?.1 (List.mem_append_left _ ag)
 ·intro au hm;rcases ah with⟨K,V,ab,ac,Z⟩ | ⟨U,f0,K,_⟩
  ·subst hm;have aP:ys= []:=by
    cases ax with
    | none=>exact am.2
    | some ad=>have:=am.2.1;simp at this;exact this
   subst V ac Z aP;have ae:Nd E H (B0++ []):=JR.Nd.left al;exact JL.drop (B0++ []) (λp ag=>List.mem_iff_getElem?.1 (List.mem_append_left _ ag)) al (h none 0 [] (by simpa using GS.nil) ae)
  ·rw [K] at au;cases au
 ·
  intro r O ai aQ ao ap aa;have ae:Nd E H (B0++ [(r,.cells O e (0,0))]):=JR.Nd.pick aa;refine JL.drop (B0++ [(r,.cells O e (0,0))]) (λp ag=>?_) aa (h (some ⟨r,0,none⟩) ai _ (.inr ⟨r,O,rfl,rfl,ao,aQ,ap.symm⟩) ae);refine List.mem_iff_getElem?.1 ?_;rcases List.mem_append.1 ag with q | q
  ·simp [q]
  ·exact List.mem_append_right _ q
theorem EO{α:Type}{pp:Rp α}{t1:TypeId}{ab c cx:Nat}{a ax:Option Addr}{seg:Seg}{xs ys ac:List α}{ats:Array TypeId}{z:Value}(j:Nat)(V:Cr xs ys=some ac)
  (an:ops[i]? =some ⟨d,.call ⟨.builtin .append,#[x,y],ats⟩,ty,p,af,g⟩) (hw:AT L ops ⟨d,.call ⟨.builtin .append,#[x,y],ats⟩,ty,p,af,g⟩=some true) (ao:BK b n ⟨d,.call ⟨.builtin .append,#[x,y],ats⟩,ty,p,af,g⟩=true)
  (ap:ev L x=some (.slice a xs.length c)) (aq:ev L y=some (.slice ax ys.length cx)) (ar:ats[0]? =some t) (au:ats[1]? =some t1) (av:P.underlying t=some (.slice e)) (aw:P.underlying t1=some (.slice e)) (ay:Bm P e=some pp.n) (hb:Fp P e=some ab) (az:zeroOf P e=some z) (aA:z.cells.size=pp.n)
  (aB:0<ab) (aC:ab<=64) (ae:OL e pp E a c seg xs) (ah:Am pp E ax cx ys) (aD:An E H S) (ai:S[j]? =some seg)
  (h:∀Y Z seg',OL e pp E Y Z seg' ac->An E H (S.set j seg')->JL J Q b n (Ax L d (.slice Y ac.length Z)) ds (.inRegion ops rest::k) cs (Ak E H (S.set j seg'))):
  JL J Q b n L ds (.inRegion ops (i::rest)::k) cs (Ak E H S):=by
 unfold Cr at V;split at V
 rotate_left
 ·cases V
 rename_i aE;cases V;obtain⟨wss,ae,aj,aF⟩:=ae;obtain⟨aG,ak⟩:=Gx aD ai;obtain⟨aa,O,ag,U⟩:=ah.rows;have al:=HN O ag;rw [aG];have aH:∀w∈aa.flatten,BT w=true:=λw hw=>by
  obtain⟨us,aI,hw⟩:=List.mem_flatten.1 hw;obtain⟨q,K⟩:=List.mem_iff_getElem?.1 aI;have aJ:q<ys.length:=by rw [← O];exact(List.getElem?_eq_some_iff.1 K).1
  exact pp.one (ag q _ us (List.getElem?_eq_getElem aJ) K) w hw
 have hlen:(xs++ys).length=xs.length+ys.length:=by simp
 have am:Hq (mk E H ((S.set j []).flatten++seg)) (.slice ax ys.length cx) pp.n aa.flatten:=by
  rcases U with⟨U,aT⟩ | ⟨bk,off,rfl,U⟩
  ·subst U;have:aa= []:=List.eq_nil_of_length_eq_zero O;subst this;cases ax with
   | none=>exact⟨rfl,rfl⟩
   | some ad=>exact⟨.inr rfl,by simp,Nat.zero_le _,λq w K=>by simp at K⟩
  ·refine⟨.inl rfl,by rw [Lb al,O],ah.1,λq w K=>?_⟩;obtain⟨aK,m,ws,aL,e2,aM⟩:=NX al K;have:=(U aK ws aL).cell (H:=H) (B:=(S.set j []).flatten++seg) e2;subst aM;rw [← Nat.add_assoc];exact this
 have aN:(S.set j []).flatten++seg=(S.set j []).flatten++seg++ []:=(List.append_nil _).symm;rw [aN] at ak am ⊢;refine Ub an hw ao ap aq ar au av aw ay hb az aA aB aC aE aH ae ak am λY Z aO aP aQ=>?_;obtain⟨aR,aS⟩:=Io ai aQ;rw [aR];have:=h Y Z aO ⟨wss++aa,by rw [hlen,List.flatten_append];exact aP,by simp [aj,O],Mb aj aF ag⟩ aS;rw [hlen] at this;exact this
end
end Pal
namespace Pal
open Go Go.Conc
section
variable {P:Program}{J:Judge P}{Q:Gs_}{b:Frame}{n:Nat}{ds:Ld_}{ops:Ao_}{k:Li_}{cs:Lf_}{m fuel:Nat}{D:Nat->Bool}{listed:Array Bool}{L L':Env}{s:St}{E E' H:LH}{S:List Seg}
variable {d:Option Tmp}{x y:Operand}{t u ty e:TypeId}{p:String}{af:Ae_}{g:On_}{v:Value}{i:Nat}{rest:List Nat}{kd:IntKind}
theorem B2(h:Sub L' L)(k':AL J Q b n ds ops k cs m D fuel listed L' s):AL J Q b n ds ops k cs m D fuel listed L s:=λT K=>k' T (K.sub h)
theorem DO{K:Nat}{O:Array Bool}(fuel:Nat)(listed:Array Bool)(I:Env->St->Prop)(U:∀L s,I L s->AL J Q b n ds ops k cs m D fuel listed L s)(h:(∀L s,I L s->AL J Q b n ds ops k cs m D fuel listed L s)->AL J Q b n ds ops k cs m D K O L s):AL J Q b n ds ops k cs m D K O L s:=h U
end
theorem YG{α:Type}{kk:Nat}{pp:Rp α}{E:LH}{bk o:Nat}{ws:Lv_}{xs:List α}{m:Int}{x:α}(O:(rA kk pp).r E ws xs)(h:At E bk o ws)(hm:ix xs m=some x):∃us,pp.r E us x/\At E bk (o+m.toNat*pp.n) us/\0<=m/\m<kk:=by
 obtain⟨U,wss,rfl,V,K⟩:=O;obtain⟨m,rfl,hm⟩:=Ge hm;have aa:m<xs.length:=(List.getElem?_eq_some_iff.1 hm).1;have hw:wss[m]? =some wss[m]:=List.getElem?_eq_getElem (by omega);refine⟨wss[m],K m x _ hm hw,?_,by omega,by omega⟩;obtain⟨f,e,fr,Y,g2⟩:=h;refine⟨f,e,fr,Y,λj w Z=>?_⟩;rw [Nat.add_assoc];exact g2 _ _ (JN (HN (V.trans U.symm) K) hw j w Z)
section
variable {P:Program}{s:St}{ρ:Operand->Value}{x y z:Operand}{d:Option Tmp}{t u ty e:TypeId}{p:String}{af:Ae_}{g:On_}{v v':Value}
end
end Pal
namespace Pal
open Go Go.Conc
section
variable {P:Program}{J:Judge P}{Q:Gs_}{b:Frame}{n:Nat}{ds:Ld_}{ops:Ao_}{k:Li_}{cs:Lf_}{L:Env}{E H:LH}{S:List Seg}
variable {d:Option Tmp}{x y:Operand}{t u ty e:TypeId}{p:String}{af:Ae_}{g:On_}{i:Nat}{rest:List Nat}{kd:IntKind}
end
end Pal
namespace Pal
open Go Go.Conc
section
variable {P:Program}{s:St}{ρ:Operand->Value}{x y z:Operand}{d:Option Tmp}{t u ty e:TypeId}{p:String}{af:Ae_}{g:On_}{v v':Value}
theorem UX{o:BinOp}{c K:Av_}(O:o= .eql∨o= .neq)(U:P.eqGuardType P.depth t=false){Q:Unit->St->Prop}{X:Halt->St->Prop}(k:Q () s):lp P (eqGuard o t x y (.agg c) (.agg K)) s Q X:=by
 rcases O with rfl | rfl <;> (simp [eqGuard,lp,bind,Sem.bind,program,pure,U];exact k)
end
end Pal
namespace Pal
open Go Go.Conc
section
variable {P:Program}(J:Judge P)(Q:Gs_)(b:Frame)(n:Nat)(ds:Ld_)(ops:Ao_)(k:Li_)(cs:Lf_)(m:Nat)(D:Nat->Bool)
def Take(fuel:Nat)(listed:Array Bool)(L:Env)(s:St)(i:Nat):Prop:=
 ∃o,ops[i]? =some o/\(!DK o.op)=true/\Bh n o.dst=true/\AT L ops o=some true/\∀ρ,EP L ρ->lp P (execOp ρ o) (Bx D s) (λO s'=>match O with
  | .value v=>AL J Q b n ds ops k cs m D fuel (Ba listed i) (Ax L o.dst v) (Cy D s s')
  | .skip=>AL J Q b n ds ops k cs m D fuel (Ba listed i) (Ax L o.dst undef) (Cy D s s')
  | .enter f args=>∃R,EH J f args (Cy D s s') R/\∀v K,R v K->K.q=false/\(∀x o,(Bx D s).E x=some o->(Bx D K).E x=some o)/\AL J Q b n ds ops k cs m D fuel (Ba listed i) (Ax L o.dst v) K
  | _=>False) (λ_ _=>False)
end
section
variable {P:Program}{J:Judge P}{Q:Gs_}{b:Frame}{n:Nat}{ds:Ld_}{ops:Ao_}{k:Li_}{cs:Lf_}{m fuel:Nat}{D:Nat->Bool}{listed:Array Bool}{L:Env}{s:St}{E E' H:LH}{S:List Seg}
variable {d:Option Tmp}{x y:Operand}{t u ty e:TypeId}{p:String}{af:Ae_}{g:On_}{v:Value}{i:Nat}{kd:IntKind}
theorem N2(U:s.q=false){l:List Nat}(K:Region.ready .any ops listed=l)(V:l≠ [])(h:∀i∈l,Take J Q b n ds ops k cs m D fuel listed L s i):AL J Q b n ds ops k cs m D (fuel+1) listed L s:=
 QN U (by rw [K];exact V) λi hi o O=>by
  rw [K] at hi
  obtain⟨o',Y,Z,aa,ab,ac⟩:=h i hi
  obtain rfl:o'=o:=by rw [Y] at O;exact Option.some.inj O
  exact⟨Z,aa,true,ab,λe=>(by cases e),λ_=>ac⟩
theorem JG.one(K:s.q=false)(O:Region.ready .any ops listed= [i])(h:Take J Q b n ds ops k cs m D fuel listed L s i):AL J Q b n ds ops k cs m D (fuel+1) listed L s:=
 N2 K O (by simp) (by simpa using h)
theorem Ed{i j:Nat}(K:s.q=false)(O:Region.ready .any ops listed= [i,j])(hi:Take J Q b n ds ops k cs m D fuel listed L s i)(U:Take J Q b n ds ops k cs m D fuel listed L s j):AL J Q b n ds ops k cs m D (fuel+1) listed L s:=
 N2 K O (by simp) (by intro q K;simp at K;rcases K with rfl | rfl <;> assumption)
end
end Pal
namespace Pal
open Go Go.Conc
theorem OL.YS{α:Type}{e:TypeId}{pp:Rp α}{E0 E H:LH}{S:List Seg}{a:Option Addr}{c j:Nat}{seg:Seg}{xs:List α}(U:OL e pp E0 a c seg xs)(Z:An E H S)(aa:S[j]? =some seg):∃wss:List (Lv_),Hq (Ak E H S) (.slice a xs.length c) pp.n wss.flatten/\wss.length=xs.length/\∀(i:Nat) x ws,xs[i]? =some x->wss[i]? =some ws->pp.r E0 ws x:=by
 obtain⟨wss,U,ab,ac⟩:=U;refine⟨wss,?_,ab,ac⟩;rcases U with⟨rfl,ae,Y,V,K⟩ | ⟨bk,f,rfl,rfl,Y,V,K⟩
 ·exact⟨ae,K⟩
 ·have hle:xs.length*pp.n<=f.size:=by rw [Y];exact Nat.mul_le_mul_right _ V
  refine⟨.inl rfl,by rw [K];simp [hle],V,λq w O=>?_⟩;rw [K,List.getElem?_take] at O;split at O
  ·refine BM Z aa ?_;simpa using O
  ·cases O
section
variable {P:Program}{E H:LH}{S:List Seg}{d:Option Tmp}{x y:Operand}{t ty e:TypeId}{p:String}{af:Ae_}{g:On_}
theorem R2{E0:LH}{ρ:Operand->Value}{K:Next->St->Prop}{α:Type}{pp:Rp α}{t1:TypeId}{am c cx:Nat}{a ax:Option Addr}{seg:Seg}{xs ys an:List α}{ats:Array TypeId}{z:Value}(j:Nat)(aj:Cr xs ys=some an)
  (aB:ρ x= .slice a xs.length c) (aC:ρ y= .slice ax ys.length cx) (aD:ats[0]? =some t) (aE:ats[1]? =some t1) (aF:P.underlying t=some (.slice e)) (aG:P.underlying t1=some (.slice e)) (aH:Bm P e=some pp.n) (hb:Fp P e=some am) (aI:zeroOf P e=some z) (aJ:z.cells.size=pp.n)
  (aK:0<am) (aL:am<=64) (ah:OL e pp E0 a c seg xs) (aM:∃Y:List (Lv_),Hq (Ak E H S) (.slice ax ys.length cx) pp.n Y.flatten/\Y.length=ys.length/\∀(i:Nat) x ws,ys[i]? =some x->Y[i]? =some ws->pp.r E0 ws x) (aN:An E H S) (av:S[j]? =some seg)
  (h:∀V O g seg',OL e pp E0 V O seg' an->An E H (S.set j (g++seg'))->K (.value (.slice V an.length O)) (Ak E H (S.set j (g++seg')))):
  lp P (execOp ρ ⟨d,.call ⟨.builtin .append,#[x,y],ats⟩,ty,p,af,g⟩) (Ak E H S) K (λ_ _=>False):=by
 unfold Cr at aj;split at aj
 rotate_left
 ·cases aj
 rename_i aO;cases aj;obtain⟨Y,aw,ak,ao⟩:=aM;obtain⟨wss,ah,ay,aP⟩:=ah;obtain⟨aQ,ap⟩:=Gx aN av;have aR:=HN ak ao;have aS:∀w∈Y.flatten,BT w=true:=λw hw=>by
  obtain⟨us,aT,hw⟩:=List.mem_flatten.1 hw;obtain⟨q,az⟩:=List.mem_iff_getElem?.1 aT;have aU:q<ys.length:=by rw [← ak];exact(List.getElem?_eq_some_iff.1 az).1
  exact pp.one (ao q _ us (List.getElem?_eq_getElem aU) az) w hw
 have hlen:(xs++ys).length=xs.length+ys.length:=by simp
 rw [aQ] at aw ⊢;rw [K9,aB,aC];have aq:∀{V O seg'},GS e pp.n V (xs.length+ys.length) O seg' (wss.flatten++Y.flatten)->OL e pp E0 V O seg' (xs++ys):=λaV=>
  ⟨wss++Y,by rw [hlen,List.flatten_append];exact aV,by simp [ay,ak],Mb ay aP ao⟩
 have fin:∀V O g seg',OL e pp E0 V O seg' (xs++ys)->Nd E H ((S.set j []).flatten++(g++seg'))->K (.value (.slice V (xs.length+ys.length) O)) (mk E H ((S.set j []).flatten++(g++seg'))):=λV O g seg' aW aa=>by
  obtain⟨aX,aY⟩:=Io av aa;rw [aX];have:=h V O g seg' aW aY;rw [hlen] at this;exact this
 have aZ:M6 ((S.set j []).flatten++seg) (S.set j []).flatten.length e pp.n a xs.length c wss.flatten:=by
  rcases ah with⟨U,Z,ai,ac,ae⟩ | ⟨bk,f,U,Z,ai,ac,ae⟩
  ·exact .inl ⟨U,Z,ai,ae⟩
  ·refine .inr ⟨bk,f,U,?_,ai,ac,ae⟩;subst Z;simp
 refine Av _ _ (Oj (pl:=(S.set j []).flatten.length) aD aE aG aF aH hb aI aJ ap aZ aw aS aK aO aL ?_ ?_ ?_)
 ·intro bk f ab al a6 a7 a0 ar au aa;rcases ah with⟨U,_⟩ | ⟨ag,f0,U,Z,ai,ac,ae⟩
  ·rw [U] at al;cases al
  ·subst Z;have a1:ag=bk:=by rw [U] at al;simpa using al
   subst a1;have a2:((S.set j []).flatten++ [(ag,Obj.cells f0 e (0,0))]).set (S.set j []).flatten.length (ag,.cells ab e (0,0))=(S.set j []).flatten++ [(ag,.cells ab e (0,0))]:=Im _ _ _ _;rw [a2] at aa ⊢;exact fin a c [] _ (aq (.inr ⟨ag,ab,U,rfl,ar,a0,au.symm⟩)) aa
 ·intro aA hm;rcases ah with⟨U,Z,ai,ac,ae⟩ | ⟨ag,f0,U,_⟩
  ·have a3:Y.flatten= []:=List.eq_nil_of_length_eq_zero (by rw [Lb aR,ak,hm];simp);have:=fin none 0 [] [] (aq (by rw [Z,hm,ae,a3];exact GS.nil)) (by rw [ac] at ap;simpa using ap);rw [Z,hm] at this;rw [ac];simp only [List.append_nil] at this ⊢;exact this
  ·rw [U] at aA;cases aA
 ·intro r ab O a4 ar au aa;have a5:(S.set j []).flatten++seg++ [(r,Obj.cells ab e (0,0))]=(S.set j []).flatten++(seg++ [(r,.cells ab e (0,0))]):=List.append_assoc _ _ _;rw [a5] at aa ⊢;exact fin (some ⟨r,0,none⟩) O seg _ (aq (.inr ⟨r,ab,rfl,rfl,ar,a4,au.symm⟩)) aa
theorem V9{E0:LH}{ρ:Operand->Value}{K:Next->St->Prop}{α:Type}{pp:Rp α}{t1:TypeId}{O c cx:Nat}{a ax:Option Addr}{seg V:Seg}{xs ys U:List α}{ats:Array TypeId}{z:Value}(j ab:Nat)(ac:Cr xs ys=some U)
  (ae:ρ x= .slice a xs.length c) (ag:ρ y= .slice ax ys.length cx) (ah:ats[0]? =some t) (ai:ats[1]? =some t1) (aj:P.underlying t=some (.slice e)) (ak:P.underlying t1=some (.slice e)) (al:Bm P e=some pp.n) (hb:Fp P e=some O) (am:zeroOf P e=some z) (an:z.cells.size=pp.n)
  (ao:0<O) (ap:O<=64) (aq:OL e pp E0 a c seg xs) (ar:OL e pp E0 ax cx V ys) (Y:An E H S) (au:S[j]? =some seg) (av:S[ab]? =some V)
  (h:∀Z aa g seg',OL e pp E0 Z aa seg' U->An E H (S.set j (g++seg'))->K (.value (.slice Z U.length aa)) (Ak E H (S.set j (g++seg')))):
  lp P (execOp ρ ⟨d,.call ⟨.builtin .append,#[x,y],ats⟩,ty,p,af,g⟩) (Ak E H S) K (λ_ _=>False):=
 R2 j ac ae ag ah ai aj ak al hb am an ao ap aq (ar.YS Y av) Y au h
end
section
variable {P:Program}{J:Judge P}{Q:Gs_}{b:Frame}{n:Nat}{ds:Ld_}{ops:Ao_}{k:Li_}{cs:Lf_}{m fuel:Nat}{D:Nat->Bool}{listed:Array Bool}{L:Env}{s:St}{E E' H:LH}{S:List Seg}
variable {d:Option Tmp}{x y:Operand}{t u ty e:TypeId}{p:String}{af:Ae_}{g:On_}{v:Value}{i:Nat}{kd:IntKind}
end
end Pal
namespace Pal
open Go Go.Conc
section
variable {P:Program}{J:Judge P}{Q:Gs_}{b:Frame}{n:Nat}{ds:Ld_}{ops:Ao_}{k:Li_}{cs:Lf_}{m fuel:Nat}{D:Nat->Bool}{listed:Array Bool}{L:Env}{s:St}{E E' H:LH}{S:List Seg}
variable {d:Option Tmp}{x y:Operand}{t u ty e:TypeId}{p:String}{af:Ae_}{g:On_}{v:Value}{i:Nat}{kd:IntKind}
theorem Take.Jy{oi:Oper}(hi:ops[i]? =some oi)(K:(!DK oi.op&&Bh n oi.dst)=true)(hw:AT L ops oi=some true)
  (h:∀ρ,EP L ρ->lp P (execOp ρ oi) s (λO s'=>match O with
   | .value v=>AL J Q b n ds ops k cs m CL fuel (Ba listed i) (Ax L oi.dst v) s'
   | .skip=>AL J Q b n ds ops k cs m CL fuel (Ba listed i) (Ax L oi.dst undef) s'
   | _=>False) (λ_ _=>False)):Take J Q b n ds ops k cs m CL fuel listed L s i:=by
 simp only [Bool.and_eq_true] at K
 refine⟨oi,hi,K.1,K.2,hw,λρ V=>Ej _ (h ρ V) ?_ (λ_ _ h=>h)⟩
 intro O s' U
 cases O with
 | value v=>exact U
 | skip=>exact U
 | _=>exact U.elim
theorem Take.Df{α:Type}{pp:Rp α}{len:Nat}{K:Array (Nat×Operand)}(vs:Lv_){z:Value}(xs:List α)(O:An E H S)
  (U:ops[i]? =some ⟨d,.buildSlice t len K,ty,p,af,g⟩) (hw:AT L ops ⟨d,.buildSlice t len K,ty,p,af,g⟩=some true) (V:Bh n d=true)
  (Y:P.underlying t=some (.slice e)) (Z:Bm P e=some pp.n) (aa:zeroOf P e=some z) (ab:decide (0<len*pp.n/\len*pp.n<=2 ^ 24)=true)
  (ac:K.toList.mapM (λq=>(ev L q.2).map λv=>(q.1,v))=some ((vs.zipIdx 0).map λq=>(q.2,q.1)))
  (ae:vs.length=len) (ag:xs.length=len) (ah:Ke pp E xs vs)
  (h:∀r seg,OL e pp E (some ⟨r,0,none⟩) len seg xs->An E H (S++ [seg])->AL J Q b n ds ops k cs m CL fuel (Ba listed i) (Ax L d (.slice (some ⟨r,0,none⟩) xs.length len)) (Ak E H (S++ [seg]))):
  Take J Q b n ds ops k cs m CL fuel listed L (Ak E H S) i:=
 Take.Jy U (by simp [DK,V]) hw λρ ai=>SO ai vs xs Y Z aa ab ac ae ag ah O λr seg aj ak=>h r seg aj ak
theorem Take.app0{α:Type}{pp:Rp α}{t1:TypeId}{U c cx:Nat}{a ax:Option Addr}{seg Y:Seg}{xs ys V:List α}{ats:Array TypeId}{z:Value}(j Z:Nat)(ab:An E H S)(ac:Cr xs ys=some V)
  (ae:ops[i]? =some ⟨d,.call ⟨.builtin .append,#[x,y],ats⟩,ty,p,af,g⟩) (hw:AT L ops ⟨d,.call ⟨.builtin .append,#[x,y],ats⟩,ty,p,af,g⟩=some true) (ag:Bh n d=true)
  (ah:ev L x=some (.slice a xs.length c)) (ai:ev L y=some (.slice ax ys.length cx)) (aj:ats[0]? =some t) (ak:ats[1]? =some t1) (al:P.underlying t=some (.slice e)) (am:P.underlying t1=some (.slice e)) (an:Bm P e=some pp.n) (hb:Fp P e=some U) (ao:zeroOf P e=some z) (ap:z.cells.size=pp.n)
  (aq:0<U) (ar:U<=64) (au:OL e pp E a c seg xs) (av:OL e pp E ax cx Y ys) (aw:S[j]? =some seg) (ay:S[Z]? =some Y)
  (h:∀K O g seg',OL e pp E K O seg' V->An E H (S.set j (g++seg'))->AL J Q b n ds ops k cs m CL fuel (Ba listed i) (Ax L d (.slice K V.length O)) (Ak E H (S.set j (g++seg')))):
  Take J Q b n ds ops k cs m CL fuel listed L (Ak E H S) i:=
 Take.Jy ae (by simp [DK,ag]) hw λρ aa=>V9 j Z ac (aa _ _ ah) (aa _ _ ai) aj ak al am an hb ao ap aq ar au av ab aw ay λK O az seg' aA aB=>h K O az seg' aA aB
theorem Take.Gf{z:Value}(O:An E H S)(U:ops[i]? =some ⟨d,.alloc e,ty,p,af,g⟩)(hw:AT L ops ⟨d,.alloc e,ty,p,af,g⟩=some true)(V:Bh n d=true)(Y:zeroOf P e=some z)
  (h:∀r,An E H (S++ [[(r,.cells z.cells e (0,0))]])->AL J Q b n ds ops k cs m CL fuel (Ba listed i) (Ax L d (.pointer (some ⟨r,0,none⟩))) (Ak E H (S++ [[(r,.cells z.cells e (0,0))]]))):
  Take J Q b n ds ops k cs m CL fuel listed L (Ak E H S) i:=
 Take.Jy U (by simp [DK,V]) hw λρ _=>by
  show lp P (do pure (Next.value (← Instr.alloc e true (.tuple #[])))) _ _ _
  refine Av _ _ ?_
  unfold Instr.alloc
  refine Av _ _ (Hd Y ?_)
  refine Av _ _ (Ih O λr K=>?_)
  rw [(EX K).1]
  exact h r (EX K).2
end
end Pal
namespace Pal
open Go Go.Conc
theorem Cj{α:Type}{kk:Nat}{pp:Rp α}{E:LH}{ws:Lv_}{xs:List α}(K:(rA kk pp).r E ws xs):ws.length=kk*pp.n:=(rA kk pp).len K
theorem Hh{α:Type}{kk:Nat}{pp:Rp α}{E:LH}{ws:Lv_}{xs:List α}{m:Int}{x:α}(O:(rA kk pp).r E ws xs)(hm:ix xs m=some x):∃us,pp.r E us x/\0<=m/\m<kk/\(∀j w,us[j]? =some w->ws[m.toNat*pp.n+j]? =some w):=by
 obtain⟨U,wss,rfl,V,K⟩:=O;obtain⟨m,rfl,hm⟩:=Ge hm;have Z:m<xs.length:=(List.getElem?_eq_some_iff.1 hm).1;have hw:wss[m]? =some wss[m]:=List.getElem?_eq_getElem (by omega);exact⟨wss[m],K m x _ hm hw,by omega,by omega,λj w Y=>JN (HN (V.trans U.symm) K) hw j w Y⟩
section
variable {P:Program}{J:Judge P}{Q:Gs_}{b:Frame}{n:Nat}{ds:Ld_}{ops:Ao_}{k:Li_}{cs:Lf_}{L:Env}{E H:LH}{S:List Seg}
variable {d:Option Tmp}{x y:Operand}{t u ty e:TypeId}{p:String}{af:Ae_}{g:On_}{i:Nat}{rest:List Nat}{kd:IntKind}{s:St}{ρ:Operand->Value}
theorem HM{α:Type}{kk:Nat}{pp:Rp α}{a:Addr}{ws:Lv_}{xs:List α}(K:(rA kk pp).r E ws xs)(O:Dm P t=some true)(U:Bm P t=some (kk*pp.n))(V:ρ x= .pointer (some a))(h:∀j v,ws[j]? =some v->s.cell? (a.add j)=some v):Yl P ⟨d,.load t x,ty,p,af,g⟩ ρ s (.agg ws.toArray):=
 Dk O (by rw [Cj K];exact U) V h
theorem SL{α:Type}{pp:Rp α}{kk:Nat}{ws:Lv_}{xs:List α}{xv:α}{m:Int}{O:Bool}(V:(rA kk pp).r E ws xs)(hm:ix xs m=some xv)
  (ag:ops[i]? =some ⟨d,.index t x y,ty,p,af,g⟩) (hw:AT L ops ⟨d,.index t x y,ty,p,af,g⟩=some true) (ah:BK b n ⟨d,.index t x y,ty,p,af,g⟩=true)
  (ai:ev L x=some (.agg ws.toArray)) (aj:ev L y=some (.int kd m)) (ak:P.underlying t=some (.array kk e)) (Y:Bm P e=some pp.n) (al:Dm P e=some O)
  (h:∀us,pp.r E us xv->JL J Q b n (Ax L d (if O then .agg us.toArray else us.headD undef)) ds (.inRegion ops rest::k) cs s) (am:O=false->pp.n=1):
  JL J Q b n L ds (.inRegion ops (i::rest)::k) cs s:=by
 obtain⟨us,Z,an,ao,aa⟩:=Hh V hm;have hlen:=pp.len Z;have ap:=Cj V;refine Ao ag hw ah (λρ ab=>?_) (h us Z);refine FL (sm:=Instr.index t (ρ x) (ρ y)) rfl ?_;rw [ab _ _ ai,ab _ _ aj];unfold Instr.index;simp only [asIntOf,HJ];refine Av (x:=underlying t) _ (Cp ak ?_);simp only [an,ao,and_self,if_true];refine Av (x:=Go.sizeOf e) _ (Ex Y ?_);unfold Go.part;refine Av (x:=isAgg e) _ (Mn al ?_);have ar:m.toNat*pp.n+pp.n<=ws.length:=by
  rw [ap];have:(m.toNat+1)*pp.n<=kk*pp.n:=Nat.mul_le_mul_right _ (by omega);rw [Nat.succ_mul] at this;exact this
 cases O with
 | true=>
  simp only [if_true];refine Av (x:=Go.sizeOf e) _ (Ex Y ?_);have aq:ws.toArray.extract (m.toNat*pp.n) (m.toNat*pp.n+pp.n)=us.toArray:=by
   apply Array.ext_getElem?;intro j;by_cases ac:j<us.length
   ·have U:=aa j us[j] (List.getElem?_eq_getElem ac);simp only [Array.getElem?_extract,List.size_toArray,List.getElem?_toArray];rw [if_pos (by omega),U];simp [ac]
   ·rw [Array.getElem?_eq_none (by simp;omega),Array.getElem?_eq_none (by simp;omega)]
  rw [aq];exact⟨rfl,rfl⟩
 | false=>
  have ae:=am rfl;obtain⟨w,rfl⟩:∃w,us= [w]:=by
   match us,hlen with
   | [w],_=>exact⟨w,rfl⟩
   | [],K=>rw [ae] at K;cases K
   | _::_::_,K=>rw [ae] at K;simp at K
  have U:=aa 0 w rfl;simp only [Bool.false_eq_true,if_false,List.getElem?_toArray];rw [Nat.add_zero] at U;rw [U];exact⟨rfl,rfl⟩
end
end Pal
namespace Pal
open Go Go.Conc
def Hs(S:List Seg):List Nat->Prop
 | []=>True
 | bk::bks=>(∃(j:Nat) (o:Obj),S[j]? =some [(bk,o)])/\Hs S bks
theorem Hs.mem{S:List Seg}:∀{bks:List Nat},Hs S bks->∀bk∈bks,∃(j:Nat) (o:Obj),S[j]? =some [(bk,o)]
 | [],_,_,h=>by cases h
 | b::bks,h,bk,hb=>by
  rcases List.mem_cons.1 hb with rfl | hb
  ·exact h.1
  ·exact h.2.mem bk hb
theorem Hs.free{E H:LH}{S:List Seg}{bks:List Nat}(h:Hs S bks)(K:An E H S):∀x,AY bks x=true->E x=none:=λx O=>by
 obtain⟨j,o,U⟩:=h.mem x (by simpa [AY] using O)
 exact MP K U
section
variable {P:Program}{J:Judge P}{Q:Gs_}{b:Frame}{n:Nat}{ds:Ld_}{ops:Ao_}{k:Li_}{cs:Lf_}{m fuel:Nat}{D:Nat->Bool}{listed:Array Bool}{L:Env}{s:St}{E E' H:LH}{S:List Seg}
variable {d:Option Tmp}{x y:Operand}{t u ty e:TypeId}{p:String}{af:Ae_}{g:On_}{v:Value}{i:Nat}{kd:IntKind}
theorem Vf(m:Nat)(bks:List Nat){id:Nat}(U:Hs S bks)(V:An E H S)(hm:P.follows .mixedOrders=true)(K:(b.kind != .early)=true)(O:DU ops m=true)
  (h:DU ops m=true->AL J Q b n ds ops k cs m (AY bks) ops.size (Array.replicate ops.size false) L (Ak E H S)):JL J Q b n L ds (.code (.region id ops true)::k) cs (Ak E H S):=
 Om m (AY bks) rfl hm K (h O)
theorem BN{bks:List Nat}{bk o:Nat}{c:Av_}{f:Nat×Nat}{w:Value}{s':St}(j:Nat)(K:An E H S)(O:S[j]? =some [(bk,.cells c e f)])(U:AY bks bk=true)(V:∀x o,(Bx (AY bks) (Ak E H S)).E x=some o->s'.E x=some o)(hw:c[o]? =some w):s'.cell? ⟨bk,o,none⟩=some w:=by
 have Y:(Bx (AY bks) (Ak E H S)).E bk=some (.cells c e f):=by
  show(if AY bks bk then(Ak E H S).get bk else E bk)=_
  rw [if_pos U];exact DW (i:=0) K O rfl
 have Z:=V _ _ Y;unfold St.cell? St.get;rw [Z];exact hw
theorem YI{bks:List Nat}{s':St}(O:An E H S)(U:∀x o,(Bx (AY bks) (Ak E H S)).E x=some o->s'.E x=some o)(V:Hs S bks):∀x o,E x=some o->s'.E x=some o:=λx o K=>U x o (by
 show(if AY bks x then(Ak E H S).get x else E x)=some o
 rw [if_neg (λhd=>by rw [V.free O x hd] at K;cases K)];exact K)
end
end Pal
namespace Pal
open Go Go.Conc
theorem Vj{P:Program}{s:St}{ρ:Operand->Value}{x y:Operand}{d:Option Tmp}{t ty e:TypeId}{p:String}{af:Ae_}{g:On_}{kd:IntKind}{α:Type}{xs:List α}{xv:α}{m:Int}{bk c K:Nat}(hm:ix xs m=some xv)(O:P.underlying t=some (.slice e))(U:Bm P e=some K)(V:ρ x= .slice (some ⟨bk,0,none⟩) xs.length c)(Y:ρ y= .int kd m):
  Yl P ⟨d,.indexAddr t x y,ty,p,af,g⟩ ρ s (.pointer (some ⟨bk,m.toNat*K,none⟩)):=by
 obtain⟨m,rfl,hm⟩:=Ge hm;have Z:m<xs.length:=(List.getElem?_eq_some_iff.1 hm).1;have:=Mh (P:=P) (s:=s) (d:=d) (ty:=ty) (p:=p) (af:=af) (g:=g) O U V Y ⟨by omega,by omega⟩;rw [DR rfl] at this;simpa using this
end Pal
namespace Pal
open Go Go.Conc
def H3(ws:Lv_)(q:Nat)(us:Lv_):Lv_:=(Bb ws.toArray q us).toList
theorem Mk{ws us:Lv_}{q:Nat}(h:q+us.length<=ws.length)(j:Nat):(H3 ws q us)[j]? =if q<=j/\j<q+us.length then us[j - q]? else ws[j]? :=by
 unfold H3;rw [Array.getElem?_toList,Lg us _ q (by simpa using h)];simp
theorem Ud{l ws us:Lv_}{q:Nat}(h:q+us.length<=ws.length):Bb (l++ws).toArray (l.length+q) us=(l++H3 ws q us).toArray:=by
 apply Array.ext_getElem?;intro j;rw [Lg us _ _ (by simp;omega)];simp only [List.getElem?_toArray];by_cases O:l.length+q<=j/\j<l.length+q+us.length
 ·rw [if_pos O,List.getElem?_append_right (by omega),Mk h,if_pos (by omega)];congr 1;omega
 ·rw [if_neg O];rcases Nat.lt_or_ge j l.length with K | K
  ·rw [List.getElem?_append_left K,List.getElem?_append_left K]
  ·rw [List.getElem?_append_right K,List.getElem?_append_right K,Mk h,if_neg (by omega)]
theorem Jb{ws us:Lv_}(h:us.length=ws.length):H3 ws 0 us=us:=by
 apply List.ext_getElem?;intro j;rw [Mk (by omega)];split
 ·simp
 ·rename_i K;rw [List.getElem?_eq_none (by omega),List.getElem?_eq_none (by omega)]
theorem Gt{E H:LH}{S:List Seg}{bk:Nat}{l ws:Lv_}{e:TypeId}{f:Nat×Nat}(j:Nat)(K:An E H S)(O:S[j]? =some [(bk,.cells (l++ws).toArray e f)]):∀q v,ws[q]? =some v->(Ak E H S).cell? (Addr.add ⟨bk,l.length,none⟩ q)=some v:=λq v U=>by
 rw [DR rfl]
 refine BM K O ?_
 simp only [List.getElem?_toArray]
 rw [List.getElem?_append_right (by omega)]
 rw [show l.length+q - l.length=q by omega];exact U
theorem II{E H:LH}{S:List Seg}{bk o:Nat}{l ws:Lv_}{e:TypeId}{f:Nat×Nat}{w:Value}(j:Nat)(K:An E H S)(O:S[j]? =some [(bk,.cells (l++ws).toArray e f)])(U:ws[o]? =some w):(Ak E H S).cell? ⟨bk,l.length+o,none⟩=some w:=by
 have:=Gt j K O o w U
 rwa [DR rfl] at this
theorem M0{α:Type}{kk:Nat}{pp:Rp α}{E:LH}{ws us:Lv_}{xs:List α}{m:Int}{x y:α}(Y:(rA kk pp).r E ws xs)(hm:ix xs m=some x)(hu:pp.r E us y):(rA kk pp).r E (H3 ws (m.toNat*pp.n) us) (xs.set m.toNat y)/\m.toNat*pp.n+us.length<=ws.length:=by
 have ai:=Cj Y;obtain⟨Z,wss,rfl,aa,ab⟩:=Y;obtain⟨m,rfl,hm⟩:=Ge hm;have aj:m<xs.length:=(List.getElem?_eq_some_iff.1 hm).1;have ac:=pp.len hu;have ak:=HN (aa.trans Z.symm) ab;have ae:m*pp.n+us.length<=wss.flatten.length:=by
  rw [ai,ac];have:(m+1)*pp.n<=kk*pp.n:=Nat.mul_le_mul_right _ (by omega);rw [Nat.succ_mul] at this;exact this
 simp only [Int.toNat_natCast];refine⟨⟨by simpa using Z,wss.set m us,?_,by simpa using aa,λi al am O U=>?_⟩,ae⟩
 ·apply List.ext_getElem?;intro j;rw [Mk ae];have key:∀(wss:List (Lv_)) (m:Nat) (hm:m<wss.length),(∀ws∈wss,ws.length=pp.n)->∀j,(wss.set m us).flatten[j]? =if m*pp.n<=j/\j<m*pp.n+us.length then us[j - m*pp.n]? else wss.flatten[j]? :=by
   intro wss
   induction wss with
   | nil=>intro m hm;simp at hm
   | cons vs wss an=>
    intro m hm ag j;have ao:vs.length=pp.n:=ag vs (by simp);cases m with
    | zero=>
     simp only [List.set_cons_zero,List.flatten_cons,Nat.zero_mul,Nat.zero_le,true_and,Nat.zero_add,Nat.sub_zero];split
     ·rename_i K;rw [List.getElem?_append_left K]
     ·rename_i K;rw [List.getElem?_append_right (by omega),List.getElem?_append_right (by omega),ac,ao]
    | succ m=>
     simp only [List.set_cons_succ,List.flatten_cons];have V:(m+1)*pp.n=m*pp.n+pp.n:=Nat.succ_mul _ _;rcases Nat.lt_or_ge j vs.length with K | K
     ·rw [List.getElem?_append_left K,List.getElem?_append_left K,if_neg (by omega)]
     ·rw [List.getElem?_append_right K,List.getElem?_append_right K,an m (by simpa using hm) (λws ap=>ag ws (List.mem_cons_of_mem _ ap))];by_cases ah:m*pp.n<=j - vs.length/\j - vs.length<m*pp.n+us.length
      ·rw [if_pos ah,if_pos (by omega)];congr 1;omega
      ·rw [if_neg ah,if_neg (by omega)]
  exact(key wss m (by omega) ak j).symm
 ·rw [List.getElem?_set] at O U;by_cases V:m=i
  ·subst V;rw [if_pos rfl,if_pos aj] at O;rw [if_pos rfl,if_pos (by omega)] at U;cases O;cases U;exact hu
  ·rw [if_neg V] at O U;exact ab i al am O U
theorem GA{α:Type}{kk:Nat}{pp:Rp α}{E:LH}{w:Value}{x:α}(h:pp.r E [w] x):(rA kk pp).r E (List.replicate kk w) (List.replicate kk x):=by
 refine⟨by simp,List.replicate kk [w],?_,by simp,λi y us K hu=>?_⟩
 ·induction kk with
  | zero=>rfl
  | succ k O=>rw [List.replicate_succ,List.replicate_succ,List.flatten_cons,← O];rfl
 ·have U:=List.eq_of_mem_replicate (List.mem_of_getElem? K);have e2:=List.eq_of_mem_replicate (List.mem_of_getElem? hu);subst U e2;exact h
section
variable {P:Program}{J:Judge P}{Q:Gs_}{b:Frame}{n:Nat}{ds:Ld_}{ops:Ao_}{k:Li_}{cs:Lf_}{L:Env}{E H:LH}{S:List Seg}
variable {d:Option Tmp}{x y:Operand}{t u ty e:TypeId}{p:String}{af:Ae_}{g:On_}{i:Nat}{rest:List Nat}{kd:IntKind}{s:St}{ρ:Operand->Value}
theorem IK{α:Type}{kk:Nat}{pp:Rp α}{ws:Lv_}{xs:List α}{xv:α}{m:Int}{bk o:Nat}(K:(rA kk pp).r E ws xs)(hm:ix xs m=some xv)(O:P.underlying t=some (.array kk e))(U:Bm P e=some pp.n)(V:ρ x= .pointer (some ⟨bk,o,none⟩))(Y:ρ y= .int kd m):
  Yl P ⟨d,.indexAddr t x y,ty,p,af,g⟩ ρ s (.pointer (some ⟨bk,o+m.toNat*pp.n,none⟩)):=by
 obtain⟨us,ab,Z,aa,ac⟩:=Hh K hm;have:=Qo (P:=P) (s:=s) (d:=d) (ty:=ty) (p:=p) (af:=af) (g:=g) O U V Y ⟨Z,aa⟩;rw [DR rfl] at this;exact this
theorem Hf{bk o:Nat}{l ws us:Lv_}{v:Value}(j:Nat)(U:ops[i]? =some ⟨d,.store t x y,ty,p,af,g⟩)(hw:AT L ops ⟨d,.store t x y,ty,p,af,g⟩=some true)(V:BK b n ⟨d,.store t x y,ty,p,af,g⟩=true)(Y:An E H S)
  (Z:ev L x=some (.pointer (some ⟨bk,l.length+o,none⟩))) (aa:ev L y=some v) (K:v.cells.toList=us) (ab:Bm P t=some us.length) (ac:∀u∈us,BT u=true) (ae:S[j]? =some [(bk,.cells (l++ws).toArray e (0,0))]) (hle:o+us.length<=ws.length)
  (h:An E H (S.set j [(bk,.cells (l++H3 ws o us).toArray e (0,0))])->JL J Q b n (Ax L d undef) ds (.inRegion ops rest::k) cs (Ak E H (S.set j [(bk,.cells (l++H3 ws o us).toArray e (0,0))]))):
  JL J Q b n L ds (.inRegion ops (i::rest)::k) cs (Ak E H S):=by
 have ag:v.cells.size=us.length:=by rw [← K];simp
 refine JS.store (v:=v) (off:=l.length+o) j U hw V Y Z aa (by rw [ag];exact ab) (by rw [K];exact ac) ae (by simp;omega) λO=>?_;rw [K,Ud hle] at O ⊢;exact h O
end
end Pal
namespace Pal
open Go Go.Conc
section
variable {P:Program}{s:St}{ρ:Operand->Value}{x y z:Operand}{d:Option Tmp}{t u ty e:TypeId}{p:String}{af:Ae_}{g:On_}{v v':Value}{E:LH}
theorem R9{n:Nat}{kd:IntKind}{a b:Int}(K:P.underlying t=some (.int kd)){Q:Bool->St->Prop}{X:Halt->St->Prop}(k:Q (a==b) s):lp P (Op.equalIn (n+1) t (.int kd a) (.int kd b)) s Q X:=by
 unfold Op.equalIn;refine Av _ _ (Cp K ?_);simp only [if_true];exact k
end
theorem Vo{E H:LH}{S:List Seg}{bks:List Nat}{bk:Nat}{l ws:Lv_}{e:TypeId}{f:Nat×Nat}{s':St}(j:Nat)(K:An E H S)(O:S[j]? =some [(bk,.cells (l++ws).toArray e f)])(U:AY bks bk=true)(V:∀x o,(Bx (AY bks) (Ak E H S)).E x=some o->s'.E x=some o):∀q v,ws[q]? =some v->s'.cell? (Addr.add ⟨bk,l.length,none⟩ q)=some v:=λq v Y=>by
 rw [DR rfl]
 refine BN j K O U V ?_
 simp only [List.getElem?_toArray]
 rw [List.getElem?_append_right (by omega)]
 rw [show l.length+q - l.length=q by omega];exact Y
end Pal
namespace Pal
open Go Go.Conc
section
variable {P:Program}{s:St}{ρ:Operand->Value}{x y z:Operand}{d:Option Tmp}{t u ty e xt t1 t2:TypeId}{p:String}{af:Ae_}{g:On_}{v v':Value}{o:Option (Int×Option Int)}
end
def Tp{P:Program}(J:Judge P)(v:Value)(args:Av_)(s:St)(R:Value->St->Prop):Prop:=
 ∀(Q:Gs_) (c:Frame) (cs:Lf_),(∀w s',R w s'->J.ok Q (G (c.finish w) cs) s')->
  lp P (do let d ← Deferred.ofValue v args;invoke d.target d.args) s (λK s'=>match K with
   | .enter f a=>J.ok Q (G (Frame.enter P f a .normal) (c::cs)) s'
   | .round l f tm as O=>J.ok Q (G (Frame.round l f tm as O .normal) (c::cs)) s'
   | _=>False) (λ_ _=>False)
def FT{P:Program}(J:Judge P)(v:Value)(args:Lv_)(E:LH)(B:Seg)(R:Value->LH->Seg->Prop):Prop:=
 ∀H,Nd E H B->Tp J v args.toArray (mk E H B) (λv s'=>∃E' B',Le E E'/\R v E' B'/\Nd E' H B'/\s'=mk E' H B')
section
variable {P:Program}{J:Judge P}{Q:Gs_}{b:Frame}{n:Nat}{L:Env}{ds:Ld_}{k:Li_}{cs:Lf_}{E:LH}{H:LH}{S:List Seg}{i:Nat}{rest:List Nat}{d:Option Tmp}{ty e t:TypeId}{p:String}{af:Ae_}{g:On_}{ops:Ao_}
theorem FT.ofFn{f:FuncId}{caps vs:Lv_}{B:Seg}{R:Value->LH->Seg->Prop}(hb:DI P f=true)(h:AP J f (vs++caps) E B R):FT J (.func (.func f) #[] caps.toArray) vs E B R:=λH K Q c cs O=>by
 simp only [Deferred.ofValue,bind,Sem.bind,pure,invoke]
 have e: #[]++vs.toArray++caps.toArray=(vs++caps).toArray:=by simp
 rw [e];exact IF hb (h H K Q c cs O)
theorem Uz{x:Operand}{O:Value}{args:Array Operand}{ats:Array TypeId}{s:St}{vs:Lv_}{R:Value->St->Prop}
  (V:ops[i]? =some ⟨d,.call ⟨.value x,args,ats⟩,ty,p,af,g⟩) (hw:AT L ops ⟨d,.call ⟨.value x,args,ats⟩,ty,p,af,g⟩=some true) (U:((b.kind != .early)&&Bh n d)=true)
  (Y:ev L x=some O) (Z:evs L args.toList=some vs) (aa:Tp J O vs.toArray s R) (ab:∀v s',R v s'->JL J Q b n (Ax L d v) ds (.inRegion ops rest::k) cs s'):
  JL J Q b n L ds (.inRegion ops (i::rest)::k) cs s:=λT K=>by
 simp only [Bool.and_eq_true] at U
 have ac:args.map (By T)=vs.toArray:=by
  rw [← Gd K.FW Z];apply Array.ext';simp
 refine Judge.oper V (Cb K hw) (by simpa using U.1) (.inr λc ae=>by cases ae) ?_;have hd:lp P (execOp (By T) ⟨d,.call ⟨.value x,args,ats⟩,ty,p,af,g⟩) s (upon J Q b T ds ops i rest k cs d) (KW J Q b T ds ops i rest k cs):=by
  have ag:execOp (By T) ⟨d,.call ⟨.value x,args,ats⟩,ty,p,af,g⟩=(do let d ← Deferred.ofValue O vs.toArray;invoke d.target d.args):=by
   simp only [execOp,resolve,ac,K.FW _ _ Y]
  rw [ag];refine Ej _ (aa Q (fr b T ds (.inRegion ops (i::rest)::k)) cs λv s' ah=>?_) (λai s' h=>?_) (λ_ _ h=>h.elim)
  ·rw [Gc (o:=⟨d,.call ⟨.value x,args,ats⟩,ty,p,af,g⟩) _ _ _ _ _ V];exact ab v s' ah _ (K.put U.2 v)
  ·cases ai <;> first | exact h | exact h.elim
 exact hd
theorem Ku{x:Operand}{O:Value}{args:Array Operand}{ats:Array TypeId}{vs:Lv_}{seg:Seg}{R:Value->LH->Seg->Prop}(j:Nat)
  (ac:FT J O vs E seg R) (ae:ops[i]? =some ⟨d,.call ⟨.value x,args,ats⟩,ty,p,af,g⟩) (hw:AT L ops ⟨d,.call ⟨.value x,args,ats⟩,ty,p,af,g⟩=some true) (ag:((b.kind != .early)&&Bh n d)=true)
  (K:ev L x=some O) (ah:evs L args.toList=some vs) (U:An E H S) (V:S[j]? =some seg) (ai:∀v E' seg',Le E E'->R v E' seg'->An E' H (S.set j seg')->JL J Q b n (Ax L d v) ds (.inRegion ops rest::k) cs (Ak E' H (S.set j seg'))):
  JL J Q b n L ds (.inRegion ops (i::rest)::k) cs (Ak E H S):=by
 have Y:S.flatten.Perm (seg++(S.set j []).flatten):=(Ei (seg':=seg) V).1.trans List.perm_append_comm;have Z:Nd E H (seg++(S.set j []).flatten):=Nd.perm U Y;have aj:Ak E H S=mk E (Bi (S.set j []).flatten H) seg:=by
  rw [show Ak E H S=mk E H S.flatten from rfl,EZ U Y];unfold mk;rw [FM]
 rw [aj];refine Uz ae hw ag K ah (ac _ (Nd.front Z)) ?_;rintro v s' ⟨E',B',hle,ak,al,rfl⟩;have e2:mk E' (Bi (S.set j []).flatten H) B'=mk E' H (B'++(S.set j []).flatten):=by unfold mk;rw [FM]
 have am:Nd E H (S.set j []).flatten:=by
  have:=Z;rw [Nd.iff] at this ⊢;rw [List.map_append,List.nodup_append] at this;exact⟨this.1.2.1,λq an=>this.2 q (List.mem_append_right _ an)⟩
 refine RX rfl λ⟨w,ao⟩=>?_;have ap:Nd E' H (S.set j []).flatten:=am.grow λx K=>by
  have aq:=ao.d x K;have ar:Bi B' (Bi (S.set j []).flatten H) x=none:=aq;exact(HI ar).1
 have aa:Nd E' H (B'++(S.set j []).flatten):=Nd.glue al ap;rw [e2];have ab:(B'++(S.set j []).flatten).Perm (S.set j B').flatten:=List.perm_append_comm.trans (Ei V).2.symm;rw [EZ aa ab];exact ai v E' B' hle ak (Nd.perm aa ab)
theorem Take.YM{bks:List Nat}{m fuel:Nat}{listed:Array Bool}{f:FuncId}{args:Array Operand}{ats:Array TypeId}{vs:Lv_}{R:Value->LH->Seg->Prop}(ae:Hs S bks)(Y:An E H S)(ag:AP J f vs E [] R)
  (ah:ops[i]? =some ⟨d,.call ⟨.value (.func f),args,ats⟩,ty,p,af,g⟩) (hw:AT L ops ⟨d,.call ⟨.value (.func f),args,ats⟩,ty,p,af,g⟩=some true) (ai:Bh n d=true) (hb:DI P f=true) (aj:evs L args.toList=some vs)
  (ak:∀v E' seg',Le E E'->R v E' seg'->An E' H (S++ [seg'])->AL J Q b n ds ops k cs m (AY bks) fuel (Ba listed i) (Ax L d v) (Ak E' H (S++ [seg']))):
  Take J Q b n ds ops k cs m (AY bks) fuel listed L (Ak E H S) i:=by
 have al:=EH.K1 (ag (Bi S.flatten H) trivial) (by rintro v s' ⟨E',B',_,_,_,rfl⟩;rfl);refine⟨_,ah,by simp [DK],ai,hw,λρ Z=>?_⟩;have am:args.map ρ=vs.toArray:=by
  rw [← Gd Z aj];apply Array.ext';simp
 have an:ρ (.func f)= .func (.func f) #[] #[]:=Z _ _ rfl;simp only [execOp,resolve,bind,Sem.bind,Deferred.ofValue,an,pure,invoke];have e: #[]++args.map ρ++ #[]=vs.toArray:=by rw [am];simp
 rw [e];refine IF hb ?_;rw [Kq];refine⟨_,al,?_⟩;rintro v ay ⟨⟨E',B',hle,ao,ap,rfl⟩,w,aq⟩;have e2:mk E' (Bi S.flatten H) B'=mk E' H (B'++S.flatten):=by unfold mk;rw [FM]
 have ar:Nd E' H S.flatten:=Nd.grow Y λx O=>by
  have au:=aq.d x O;have U:Bi B' (Bi S.flatten H) x=none:=au;exact(HI U).1
 have aa:Nd E' H (B'++S.flatten):=Nd.glue ap ar;have ab:(B'++S.flatten).Perm (S++ [B']).flatten:=by rw [GO];exact List.perm_append_comm
 have ac:An E' H (S++ [B']):=Nd.perm aa ab;rw [e2,EZ aa ab];refine⟨rfl,λx o O=>?_,ak v E' B' hle ao ac⟩;by_cases hd:AY bks x=true
 ·obtain⟨j,o',V⟩:=ae.mem x (by simpa [AY] using hd);have U:(Ak E H S).get x=some o':=DW (i:=0) Y V rfl;have av:j<S.length:=(List.getElem?_eq_some_iff.1 V).1;have aw:(Ak E' H (S++ [B'])).get x=some o':=DW (i:=0) ac (by rw [List.getElem?_append_left av];exact V) rfl;have K:(if AY bks x then(Ak E H S).get x else E x)=some o:=O
  show(if AY bks x then(Ak E' H (S++ [B'])).get x else E' x)=some o
  rw [if_pos hd] at K ⊢;rw [aw,← U];exact K
 ·have K:(if AY bks x then(Ak E H S).get x else E x)=some o:=O
  show(if AY bks x then(Ak E' H (S++ [B'])).get x else E' x)=some o
  rw [if_neg hd] at K ⊢;exact hle _ _ K
theorem Take.Dt{m fuel:Nat}{listed:Array Bool}{f:FuncId}{args:Array Operand}{ats:Array TypeId}{vs:Lv_}{R:Value->LH->Seg->Prop}(O:An E H S)(U:AP J f vs E [] R)
  (V:ops[i]? =some ⟨d,.call ⟨.value (.func f),args,ats⟩,ty,p,af,g⟩) (hw:AT L ops ⟨d,.call ⟨.value (.func f),args,ats⟩,ty,p,af,g⟩=some true) (Y:Bh n d=true) (hb:DI P f=true) (Z:evs L args.toList=some vs)
  (K:∀v E' seg',Le E E'->R v E' seg'->An E' H (S++ [seg'])->AL J Q b n ds ops k cs m CL fuel (Ba listed i) (Ax L d v) (Ak E' H (S++ [seg']))):
  Take J Q b n ds ops k cs m CL fuel listed L (Ak E H S) i:=by
 have e:AY []=CL:=by funext x;rfl
 rw [← e] at K ⊢;exact Take.YM (bks:= []) trivial O U V hw Y hb Z K
end
end Pal
namespace Pal
open Go Go.Conc
open Go.ConcN (upd upd_same upd_ne)
def CQ:Loc->Option Nat | .cell a=>some a.block | .obj r=>some r | _=>none
structure BS (t:Trace) (w:World) (N:Nat) (S:Nat->St) (Sh:Nat->Prop):Prop where
 fits:∀i,i<N->Fits (S i) w
 hh:∀i j,i<N->j<N->i≠j->∀b,(S i).H b≠none->(S j).H b=none/\(S j).E b=none
 sh:∀i,i<N->∀b,Sh b->(S i).H b=none/\(S i).E b=none
 F0:∀b,Sh b->b<w.heap.size
 clean:∀said,¬Race said t
 low:∀op∈t,op.act.low w.heap.size
 kH:∀i,i<N->∀b,(S i).H b≠none->∀x a,touchAt t x=some a->CQ a.loc=some b->Knows t i x
 kE:∀i,i<N->∀b,(S i).E b≠none->∀x a,touchAt t x=some a->CQ a.loc=some b->a.write=true->Knows t i x
theorem Oo{t:Trace}{x:Nat}{a:Touch}{b n:Nat}(Y:∀op∈t,op.act.low n)(h:touchAt t x=some a)(hb:CQ a.loc=some b):b<n:=by
 obtain⟨op,Z,K⟩:=touch_of h;have O:=Y op (mem_of_getElem? Z);cases U:op.act with
 | access e=>
  rw [U] at K O;simp only [MemAct.touch?,Option.some.injEq] at K;subst K;simp only [MemAct.low] at O;cases V:e.loc with
  | cell ad=>rw [V] at O hb;simp only [CQ,Option.some.injEq] at hb;subst hb;exact O
  | obj r=>rw [V] at O hb;simp only [CQ,Option.some.injEq] at hb;subst hb;exact O
  | _=>rw [V] at hb;simp [CQ] at hb
 | mark m=>
  rw [U] at K O;cases m <;> simp only [MemAct.touch?] at K <;> first
   | (simp at K;done)
   | (simp only [Option.some.injEq] at K;subst K;simp only [CQ,Option.some.injEq] at hb;subst hb;exact O)
 | _=>rw [U] at K;simp [MemAct.touch?] at K
theorem Kz{s:St}{w w':World}{e:Event}{a:Touch}{b:Nat}(h:Ev s w w' e)(K:(MemAct.ofEvent e).touch? =some a)(hb:CQ a.loc=some b):
  Gw s w w' b a.write:=by
 obtain⟨loc,wr,V⟩:=e;cases loc with
 | cell ad=>
  obtain⟨O,U⟩:=h;simp only at O;subst O;simp only [MemAct.ofEvent,MemAct.touch?,Option.some.injEq] at K;subst K;simp only [CQ,Option.some.injEq] at hb;subst hb;exact U
 | obj r=>
  obtain⟨O,U⟩:=h;simp only at O;subst O;simp only [MemAct.ofEvent,MemAct.touch?,Option.some.injEq] at K;subst K;simp only [CQ,Option.some.injEq] at hb;subst hb;exact U
 | mark m=>
  cases m <;> simp only [Ev] at h <;> first | exact h.elim | simp [MemAct.ofEvent,MemAct.touch?] at K
 | _=>exact h.elim
theorem WY{s:St}{w w':World}{e:Event}(h:Ev s w w' e):(MemAct.ofEvent e).low w'.heap.size:=by
 obtain⟨loc,wr,U⟩:=e;cases loc with
 | cell ad=>obtain⟨K,O⟩:=h;simp only at K;subst K;exact O.1
 | obj r=>obtain⟨K,O⟩:=h;simp only at K;subst K;cases wr <;> exact O.1
 | mark m=>cases m <;> simp only [Ev] at h <;> first | exact h.elim | exact trivial
 | _=>exact h.elim
theorem TV{l:Loc}(h:l.isMemory=true):∃b,CQ l=some b:=by
 cases l <;> simp [Loc.isMemory] at h <;> exact⟨_,rfl⟩
theorem BS.own{t:Trace}{w w':World}{N:Nat}{S:Nat->St}{Sh:Nat->Prop}(h:BS t w N S Sh){i:Nat}(hi:i<N){s':St}{fn:FuncId}{pos:String}{es:Array Event}
  (ay:Fits s' w') (V:Fr (S i) w s' w') (aj:∀e∈es,Ev (S i) w w' e):BS (t++MemOp.ofEvents i fn pos es) w' N (upd S i s') Sh:=by
 have aq:∀j,j<N->j≠i->∀b o,((S j).H b=some o∨(S j).E b=some o)->w'.heap[b]? =some o/\(S i).H b=none:=by
  intro j U Y b o K;have hw:w.heap[b]? =some o:=K.elim ((h.fits j U).h b o) ((h.fits j U).e b o);have ab:b<w.heap.size:=by
   rcases Nat.lt_or_ge b w.heap.size with am | am
   ·exact am
   ·simp [Array.getElem?_eq_none am] at hw
  have ar:(S i).H b=none:=by
   cases az:(S i).H b with
   | none=>rfl
   | some u=>
    have:=h.hh i j hi U (Ne.symm Y) b (by rw [az];simp);rcases K with K | K
    ·rw [this.1] at K;cases K
    ·rw [this.2] at K;cases K
  exact⟨by rw [V.keep b ab ar,hw],ar⟩
 have ak:∀j,j<N->∀b,w.heap.size<=b->(S j).H b=none/\(S j).E b=none:=by
  intro j U b hb;constructor
  ·cases O:(S j).H b with
   | none=>rfl
   | some o=>have:=(h.fits j U).h b o O;simp [Array.getElem?_eq_none hb] at this
  ·cases O:(S j).E b with
   | none=>rfl
   | some o=>have:=(h.fits j U).e b o O;simp [Array.getElem?_eq_none hb] at this
 have ac:∀op∈MemOp.ofEvents i fn pos es,op.g=i/\∃e∈es,op.act=MemAct.ofEvent e:=by
  intro op ac;obtain⟨e,he,rfl⟩:=mem_ofEvents ac;exact⟨rfl,e,he,rfl⟩
 have hold:∀x a,touchAt t x=some a->touchAt (t++MemOp.ofEvents i fn pos es) x=some a:=by
  intro x a O;obtain⟨op,K,_⟩:=touch_of O;rw [touchAt_old (lt_size_of_getElem? K)];exact O
 have al:∀x a,touchAt (t++MemOp.ofEvents i fn pos es) x=some a->touchAt t x=some a∨(Knows (t++MemOp.ofEvents i fn pos es) i x/\∃e∈es,(MemAct.ofEvent e).touch? =some a):=by
  intro x a O;obtain⟨op,K,au⟩:=touch_of O;rcases getElem?_append_cases K with⟨ab,aA⟩ | ⟨_,aB⟩
  ·left;rw [touchAt_of aA];exact au
  ·right;obtain⟨aC,e,he,ag⟩:=ac op aB;exact⟨by have:=knows_own K;rwa [aC] at this,e,he,by rw [← ag];exact au⟩
 have aD:∀j,j<N->j≠i->∀b,s'.H b≠none->(S j).H b=none/\(S j).E b=none:=by
  intro j U Y b hb;rcases V.own b hb with O | O
  ·exact h.hh i j hi U (Ne.symm Y) b O
  ·exact ak j U b O
 have aE:∀j,j<N->j≠i->∀b,(S j).H b≠none->s'.H b=none/\s'.E b=none:=by
  intro j U Y b hb;have Z:=h.hh j i U hi Y b hb;have ab:¬w.heap.size<=b:=λO=>hb (ak j U b O).1;constructor
  ·cases O:s'.H b with
   | none=>rfl
   | some o=>
    rcases V.own b (by rw [O];simp) with y | y
    ·exact absurd Z.1 y
    ·exact absurd y ab
  ·cases O:s'.E b with
   | none=>rfl
   | some o=>
    rcases V.ED b (by rw [O];simp) with y | y | y
    ·exact absurd Z.2 y
    ·exact absurd Z.1 y
    ·exact absurd y ab
 constructor
 ·intro j U;by_cases e:j=i
  ·subst e;rw [upd_same];exact ay
  ·rw [upd_ne _ _ e];exact⟨λb o K=>(aq j U e b o (.inr K)).1,λb o K=>(aq j U e b o (.inl K)).1,(h.fits j U).d⟩
 ·intro a c av ah Y b hb;by_cases e:a=i
  ·subst e;rw [upd_same] at hb;rw [upd_ne _ _ (Ne.symm Y)];exact aD c ah (Ne.symm Y) b hb
  ·rw [upd_ne _ _ e] at hb;by_cases aw:c=i
   ·subst aw;rw [upd_same];exact aE a av Y b hb
   ·rw [upd_ne _ _ aw];exact h.hh a c av ah Y b hb
 ·intro j U b hb;by_cases e:j=i
  ·subst e;rw [upd_same];have Z:=h.sh j U b hb;have ab:=h.F0 b hb;constructor
   ·cases O:s'.H b with
    | none=>rfl
    | some o=>
     rcases V.own b (by rw [O];simp) with y | y
     ·exact absurd Z.1 y
     ·omega
   ·cases O:s'.E b with
    | none=>rfl
    | some o=>
     rcases V.ED b (by rw [O];simp) with y | y | y
     ·exact absurd Z.2 y
     ·exact absurd Z.1 y
     ·omega
  ·rw [upd_ne _ _ e];exact h.sh j U b hb
 ·exact λb hb=>Nat.lt_of_lt_of_le (h.F0 b hb) V.size
 ·intro said;refine noRace_append (g:=i) (h.clean said) (λop K=>(ac op K).1) λx a O op K c ah aF=>?_;obtain⟨_,e,he,ag⟩:=ac op K;rw [ag] at ah;obtain⟨aG,hm,ae,_⟩:=aF;obtain⟨b,hb⟩:=TV hm;have aH:CQ c.loc=some b:=by rw [← aG];exact hb
  have ai:=Kz (aj e he) ah aH;rcases ai.2 with y | y | ⟨y,an⟩
  ·exact h.kH i hi b y x a O hb
  ·have:=Oo h.low O hb;omega
  ·rcases ae with z | z
   ·exact h.kE i hi b y x a O hb z
   ·rw [an] at z;cases z
 ·intro op K;rcases Array.mem_append.1 K with K | K
  ·exact MemAct.low_mono V.size (h.low op K)
  ·obtain⟨_,e,he,ag⟩:=ac op K;rw [ag];exact WY (aj e he)
 ·intro j U b hb x a O aa;by_cases e:j=i
  ·subst e;rw [upd_same] at hb;rcases al x a O with K | ⟨ao,_⟩
   ·rcases V.own b hb with y | y
    ·exact(h.kH j U b y x a K aa).app _
    ·have:=Oo h.low K aa;omega
   ·exact ao
  ·rw [upd_ne _ _ e] at hb;rcases al x a O with K | ⟨_,ev,he,ap⟩
   ·exact(h.kH j U b hb x a K aa).app _
   ·have ai:=Kz (aj ev he) ap aa;have Z:=h.hh j i U hi e b hb;rcases ai.2 with y | y | ⟨y,_⟩
    ·exact absurd Z.1 y
    ·exact absurd (ak j U b y).1 hb
    ·exact absurd Z.2 y
 ·intro j U b hb x a O aa ae;by_cases e:j=i
  ·subst e;rw [upd_same] at hb;rcases al x a O with K | ⟨ao,_⟩
   ·rcases V.ED b hb with y | y | y
    ·exact(h.kE j U b y x a K aa ae).app _
    ·exact(h.kH j U b y x a K aa).app _
    ·have:=Oo h.low K aa;omega
   ·exact ao
  ·rw [upd_ne _ _ e] at hb;rcases al x a O with K | ⟨_,ev,he,ap⟩
   ·exact(h.kE j U b hb x a K aa ae).app _
   ·have ai:=Kz (aj ev he) ap aa;rcases ai.2 with y | y | ⟨_,an⟩
    ·exact absurd ((h.hh i j hi U (Ne.symm e) b y).2) hb
    ·exact absurd (ak j U b y).2 hb
    ·rw [an] at ae;cases ae
theorem BS.mute{t u:Trace}{w w':World}{N:Nat}{S:Nat->St}{Sh:Nat->Prop}(h:BS t w N S Sh){g:Nat}(hu:∀op∈u,op.g=g)(Y:∀op∈u,op.act.touch? =none)(ab:∀op∈u,op.act.low w'.heap.size)(hw:w'.heap=w.heap):BS (t++u) w' N S Sh:=by
 have Z:∀x a,touchAt (t++u) x=some a->touchAt t x=some a:=by
  intro x a O;obtain⟨op,K,U⟩:=touch_of O;rcases getElem?_append_cases K with⟨ah,ac⟩ | ⟨_,ae⟩
  ·rw [touchAt_of ac];exact U
  ·rw [Y op ae] at U;cases U
 exact⟨λi hi=>⟨λb o K=>by rw [hw];exact(h.fits i hi).e b o K,λb o K=>by rw [hw];exact(h.fits i hi).h b o K,(h.fits i hi).d⟩,h.hh,h.sh,λb hb=>by rw [hw];exact h.F0 b hb,
  λsaid=>noRace_append (g:=g) (h.clean said) hu (λx a _ op K c aa _=>by rw [Y op K] at aa;cases aa),
  λop K=>(Array.mem_append.1 K).elim (λK=>by rw [hw];exact h.low op K) (ab op),
  λi hi b hb x a O V=>(h.kH i hi b hb x a (Z x a O) V).app _,λi hi b hb x a O V ag=>(h.kE i hi b hb x a (Z x a O) V ag).app _⟩
theorem BS.ghost{t:Trace}{w:World}{N:Nat}{S:Nat->St}{Sh:Nat->Prop}(h:BS t w N S Sh){i:Nat}(hi:i<N){s₀:St}(ab:Cl (S i) s₀):BS t w N (upd S i s₀) Sh:=by
 have Y:∀b,s₀.H b≠none->(S i).H b≠none:=λb hb=>by obtain⟨o,ac⟩:=HK hb;rw [ab.own b o ac];simp
 have ae:∀b,s₀.E b≠none->(S i).E b≠none∨(S i).H b≠none:=λb hb=>by
  obtain⟨o,ac⟩:=HK hb;rcases ab.ED b o ac with x | x
  ·exact .inl (by rw [x];simp)
  ·exact .inr (by rw [x.1];simp)
 have Z:∀{x:Option Obj},¬x≠none->x=none:=λh=>Classical.not_not.1 h;constructor
 ·intro j K;by_cases e:j=i
  ·subst e;rw [upd_same];exact ab.fits (h.fits j K)
  ·rw [upd_ne _ _ e];exact h.fits j K
 ·intro a c ag ah aa b hb;by_cases e:a=i
  ·subst e;rw [upd_same] at hb;rw [upd_ne _ _ (Ne.symm aa)];exact h.hh a c ag ah aa b (Y b hb)
  ·rw [upd_ne _ _ e] at hb;by_cases ai:c=i
   ·subst ai;rw [upd_same];have O:=h.hh a c ag ah aa b hb;exact⟨Z λx=>Y b x O.1,Z λx=>(ae b x).elim (λy=>y O.2) λy=>y O.1⟩
   ·rw [upd_ne _ _ ai];exact h.hh a c ag ah aa b hb
 ·intro j K b hb;by_cases e:j=i
  ·subst e;rw [upd_same];have O:=h.sh j K b hb;exact⟨Z λx=>Y b x O.1,Z λx=>(ae b x).elim (λy=>y O.2) λy=>y O.1⟩
  ·rw [upd_ne _ _ e];exact h.sh j K b hb
 ·exact h.F0
 ·exact h.clean
 ·exact h.low
 ·intro j K b hb x a U V;by_cases e:j=i
  ·subst e;rw [upd_same] at hb;exact h.kH j K b (Y b hb) x a U V
  ·rw [upd_ne _ _ e] at hb;exact h.kH j K b hb x a U V
 ·intro j K b hb x a U V aj;by_cases e:j=i
  ·subst e;rw [upd_same] at hb;rcases ae b hb with y | y
   ·exact h.kE j K b y x a U V aj
   ·exact h.kH j K b y x a U V
  ·rw [upd_ne _ _ e] at hb;exact h.kE j K b hb x a U V aj
end Pal
namespace Pal
open Go Go.Conc
open Go.ConcN (sumTo upd sumTo_upd upd_ne upd_same)
abbrev St.none:St:=St.quiet
def F5(o o':Os):Prop:=∃d:Nat,o'={o with wall:=o.wall+d,mono:=o.mono+d}
theorem F5.refl(o:Os):F5 o o:=⟨0,rfl⟩
theorem F5.of{o o':Os}(h:o'=o):F5 o o':=h▸ .refl o
theorem F5.trans{a b c:Os}(h:F5 a b)(k:F5 b c):F5 a c:=by
 obtain⟨d,rfl⟩:=h;obtain⟨e,rfl⟩:=k;exact⟨d+e,by simp [Nat.add_assoc]⟩
def lone(s:St):Nat->St:=λi=>if i=0 then s else St.none
structure G6 (P:Program) (gs:Array Goroutine) (w:World) (t:Trace) (q:Nat->Nat) (Sh:Nat->Prop) (g:Goroutine) (s:St):Prop where
 main:gs[0]? =some g
 lv:Leavers P t gs q
 Cc:BS t w gs.size (lone s) Sh
 over:t.HandedOver
 hears:Deaf t 0=0
def Reaches(P:Program)(gs:Array Goroutine)(w:World)(sl:Option (Nat×Nat))(t:Trace)(s:St)(K:Gs_):Prop:=
 ∃(n:Nat) (gs':Array Goroutine) (w':World) (U:Option (Nat×Nat)) (O:Trace) (q':Nat->Nat) (V:Nat->Prop) (g':Goroutine) (s':St),
  runNT P n (crowd gs w sl) t=(.next (crowd gs' w' U),O)/\G6 P gs' w' O q' V g' s'/\K g' s'/\Le' s s'/\w'.tape=w.tape/\F5 w.os w'.os/\w'.output=w.output
 where
  Le' (s s' : St) : Prop := ∀ b o, s.E b = some o -> s'.E b = some o
theorem QG{s s':St}:upd (lone s) 0 s'=lone s':=by
 funext i;unfold upd lone;split <;> rfl
theorem Ma{P:Program}{m m':Machine}{t ops:Trace}{k:Nat}{r:Stepped×Trace}(h:stepT P m=(.next m',ops))(K:runNT P k m' (t++ops)=r):runNT P (k+1) m t=r:=by
 simp only [runNT,h];exact K
theorem G6.at_{P:Program}{gs:Array Goroutine}{w:World}{t:Trace}{q:Nat->Nat}{Sh:Nat->Prop}{g:Goroutine}{s:St}(h:G6 P gs w t q Sh g s)(d:Nat):G6 P gs (w.at d) t q Sh g s:=
 ⟨h.main,h.lv,by
  have:=h.Cc.mute (u:= #[]) (w':=w.at d) (g:=0) (by simp) (by simp) (by simp) rfl
  simpa using this,h.over,h.hears⟩
theorem U1{P:Program}{g:Goroutine}{s:St}{K:Gs_}(av:SJ P true g s K):
  ∀(M:Nat) (gs:Array Goroutine) (w:World) (sl:Option (Nat×Nat)) (t:Trace) (q:Nat->Nat) (Sh:Nat->Prop),sumTo gs.size q<=M->G6 P gs w t q Sh g s->Reaches P gs w sl t s K:=by
 intro M
 induction M with
 | zero=>?_
 | succ M aB=>?_
 all_goals
  intro gs w sl t q Sh aQ hC;have ai:=av.1;have aC:∀x∈gs,awake x:=by
   intro x ab;obtain⟨i,hi,rfl⟩:=Array.mem_iff_getElem.1 ab;rcases Nat.eq_zero_or_pos i with rfl | aj
   ·have:gs[0]=g:=by simpa [Array.getElem?_eq_getElem hi] using hC.main
    rw [this];exact awake_of (.inl ai)
   ·exact awake_of ((hC.lv.old i _ aj (Array.getElem?_eq_getElem hi)).status.elim .inl λx=> .inr (.inr x))
  obtain⟨i,x,d,ac,hi,ab,aw⟩:=crowd_pick (P:=P) (w:=w) (sl:=sl) aC ⟨0,g,hC.main,ai⟩;have ak:=hC.at_ d;have al:0<gs.size:=(Array.getElem?_eq_some_iff.1 hC.main).1;rcases Nat.eq_zero_or_pos i with rfl | aj
  ·obtain rfl:x=g:=by rw [hC.main] at hi;exact(Option.some.inj hi).symm
   have aD:Fits s (w.at d):=ak.Cc.fits 0 al;obtain⟨g',s',w',es,am,an,ao,Y,ae⟩:=av.2.1 (w.at d) aD;have ap:=runT_crowd_go (P:=P) (sl:=ac) (i:=0) hi (show stepG P (0==0) x (w.at d)=_ from am);have ag:((gs.map (woken P x g' w')).setIfInBounds 0 g').size=gs.size:=by simp
   have V:∀op∈MemOp.ofEvents 0 x.frame.fn x.frame.place es,op.g=0:=λop O=>by obtain⟨e,_,rfl⟩:=mem_ofEvents O;rfl
   have aE:deafBehind (Deaf t 0) es=Deaf t 0:=deafBehind_still (λe he=>by
    have:=ae e he
    unfold Ev at this
    constructor <;> intro aF <;> rw [aF] at this <;> exact this) _
   refine⟨1,_,w',ac,t++MemOp.ofEvents 0 x.frame.fn x.frame.place es,q,Sh,g',s',Ma (aw.trans ap) rfl,⟨by simp [al],⟨λj y U Z=>?_,λj U=>?_⟩,?_,?_,?_⟩,an,Y.ext,Y.tape,.of Y.os,Y.output⟩
   ·have aq:0≠j:=by omega
    rw [Array.getElem?_setIfInBounds_ne aq,Array.getElem?_map] at Z;obtain⟨z,ar,rfl⟩:=Option.map_eq_some_iff.1 Z;have aa:=hC.lv.old j z U ar;rw [woken_quitsD aa,Deaf_other t (by omega) _ V];exact aa
   ·rw [Deaf_other t (g':=0) (by simp at U;omega) _ V];exact hC.lv.above j (by simpa using U)
   ·rw [ag,← QG (s:=s)];exact ak.Cc.own al ao (by simpa [lone] using Y) (by simpa [lone] using ae)
   ·exact handedOver_app hC.over λop O=> .inl (V op O)
   ·rw [Deaf_own,aE];exact hC.hears
  ·
   have aa:=hC.lv.old i x aj hi;have aG:(i==0)=false:=by simp;omega
   have ay:i<gs.size:=(Array.getElem?_eq_some_iff.1 hi).1;cases au:q i with
   | zero=>rw [au] at aa;rw [aa.1] at ab;cases ab
   | succ k=>
    rw [au] at aa;rcases aa with⟨aH,_⟩ | ⟨_,x',es,hm,aI,aJ⟩
    ·rw [aH] at ab;cases ab
    have aR:sumTo gs.size (upd q i k)+(k+1)=sumTo gs.size q+k:=by
     have:=sumTo_upd q k id ay;simpa [au] using this
    first
     | (exfalso;omega)
     | (
      have ap:=runT_crowd_go (P:=P) (sl:=ac) (i:=i) hi (by rw [aG];exact aI (w.at d))
      have ag:((gs.map (woken P x x' (w.at d))).setIfInBounds i x').size=gs.size:=by simp
      have V:∀op∈MemOp.ofEvents i x.frame.fn x.frame.place es,op.g=i:=λop O=>by obtain⟨e,_,rfl⟩:=mem_ofEvents O;rfl
      have az:∀op∈MemOp.ofEvents i x.frame.fn x.frame.place es,op.act.touch? =none:=λop O=>by obtain⟨e,he,rfl⟩:=mem_ofEvents O;exact touch_mute (hm e he)
      have aK:G6 P ((gs.map (woken P x x' (w.at d))).setIfInBounds i x') (w.at d) (t++MemOp.ofEvents i x.frame.fn x.frame.place es) (upd q i k) Sh g s:=by
       refine⟨?_,⟨λj y U Z=>?_,λj U=>?_⟩,?_,?_,?_⟩
       ·have aq:i≠0:=by omega
        rw [Array.getElem?_setIfInBounds_ne aq,Array.getElem?_map,hC.main]
        simp [woken_run ai]
       ·by_cases ah:i=j
        ·subst ah
         rw [Array.getElem?_setIfInBounds_self_of_lt (by simpa using ay)] at Z
         obtain rfl:=Option.some.inj Z
         rw [upd_same,Deaf_own]
         exact aJ
        ·rw [Array.getElem?_setIfInBounds_ne ah,Array.getElem?_map] at Z
         obtain⟨z,ar,rfl⟩:=Option.map_eq_some_iff.1 Z
         have aA:=hC.lv.old j z U ar
         rw [woken_quitsD aA,upd_ne q k (Ne.symm ah),Deaf_other t ah _ V]
         exact aA
       ·rw [Deaf_other t (g':=i) (by simp at U;omega) _ V]
        exact hC.lv.above j (by simpa using U)
       ·rw [ag]
        exact ak.Cc.mute V az (λop O=>by obtain⟨e,he,rfl⟩:=mem_ofEvents O;exact low_mute (hm e he) _) rfl
       ·exact handedOver_app hC.over λop O=> .inr (az op O)
       ·rw [Deaf_other t (by omega) _ V];exact hC.hears
      obtain⟨n,gs',w',aL,aM,q',aN,g',s',am,an,ao,Y,ae,aO,aP⟩:=aB _ (w.at d) ac _ _ Sh (by rw [ag];omega) aK
      exact⟨n+1,gs',w',aL,aM,q',aN,g',s',Ma (aw.trans ap) am,an,ao,Y,ae,aO,aP⟩)
def Gv(P:Program):Judge P where
 main:=true
 ok Q g s:=∀gs w sl t q Sh,G6 P gs w t q Sh g s->Reaches P gs w sl t s Q
 stop {Q g s} h:=λgs w sl t q Sh hC=>⟨0,gs,w,sl,t,q,Sh,g,s,rfl,hC,h,λ_ _ h=>h,rfl,.refl _,rfl⟩
 step {Q g s} h:=λgs w sl t q Sh hC=>by
  obtain⟨n,gs',w',K,O,q',U,g',s',V,Y,Z,aa,ab,ac,ae⟩:=U1 h _ gs w sl t q Sh (Nat.le_refl _) hC
  obtain⟨ag,ah,ai,aj,ak,al,am,an,ao,k1,ap,aq,ar,au,av,aw⟩:=Z gs' w' K O q' U Y
  refine⟨n+ag,ah,ai,aj,ak,al,am,an,ao,?_,ap,aq,λb o h=>ar b o (aa b o h),au.trans ab,ac.trans av,aw.trans ae⟩
  rw [runNT_add,V];exact k1
 trans {Q R g s} h k:=λgs w sl t q Sh hC=>by
  obtain⟨n,gs',w',K,O,q',U,g',s',V,Y,Z,aa,ab,ac,ae⟩:=h gs w sl t q Sh hC
  obtain⟨ag,ah,ai,aj,ak,al,am,an,ao,k1,ap,aq,ar,au,av,aw⟩:=k g' s' Z gs' w' K O q' U Y
  refine⟨n+ag,ah,ai,aj,ak,al,am,an,ao,?_,ap,aq,λb o h=>ar b o (aa b o h),au.trans ab,ac.trans av,aw.trans ae⟩
  rw [runNT_add,V];exact k1
 ghost {Q g s s₀} ay h:=λgs w sl t q Sh hC=>by
  have az:0<gs.size:=(Array.getElem?_eq_some_iff.1 hC.main).1
  have aA:G6 P gs w t q Sh g s₀:=⟨hC.main,hC.lv,by
   rw [← QG (s:=s)];exact hC.Cc.ghost az (by simpa [lone] using ay),hC.over,hC.hears⟩
  obtain⟨n,gs',w',K,O,q',U,g',s',V,Y,Z,aa,ab,ac,ae⟩:=h gs w sl t q Sh aA
  exact⟨n,gs',w',K,O,q',U,g',s',V,Y,Z,λb o h=>aa b o (ay.ext b o h),ab,ac,ae⟩
end Pal
namespace Pal
open Go Go.Conc
open Go.ConcN (upd upd_same upd_ne)
section
variable {t u:Trace}{w w':World}{N:Nat}{S:Nat->St}{Sh:Nat->Prop}
theorem BS.ext(h:BS t w N S Sh)(aa:∀said,¬Race said (t++u))(hu:∀op∈u,∀a,op.act.touch? =some a->∀b,CQ a.loc=some b->Sh b)
  (ab:∀op∈u,op.act.low w.heap.size) (Y:w'.heap.size=w.heap.size) (hw:∀b,¬Sh b->w'.heap[b]? =w.heap[b]?):BS (t++u) w' N S Sh:=by
 have hold:∀x a b,touchAt (t++u) x=some a->CQ a.loc=some b->¬Sh b->touchAt t x=some a:=by
  intro x a b U hb O;obtain⟨op,K,Z⟩:=touch_of U;rcases getElem?_append_cases K with⟨ai,ac⟩ | ⟨_,ae⟩
  ·rw [touchAt_of ac];exact Z
  ·exact absurd (hu op ae a Z b hb) O
 have O:∀i,i<N->∀b,((S i).H b≠none∨(S i).E b≠none)->¬Sh b:=by
  intro i hi b hb ag;have:=h.sh i hi b ag;exact hb.elim (λx=>x this.1) (λx=>x this.2)
 refine⟨λi hi=>⟨λb o K=>?_,λb o K=>?_,(h.fits i hi).d⟩,h.hh,h.sh,λb hb=>by rw [Y];exact h.F0 b hb,aa,λop K=>?_,λi hi b hb x a U V=>?_,λi hi b hb x a U V ah=>?_⟩
 ·rw [hw b (O i hi b (.inr (by rw [K];simp)))];exact(h.fits i hi).e b o K
 ·rw [hw b (O i hi b (.inl (by rw [K];simp)))];exact(h.fits i hi).h b o K
 ·rcases Array.mem_append.1 K with K | K
  ·rw [Y];exact h.low op K
  ·rw [Y];exact ab op K
 ·exact(h.kH i hi b hb x a (hold x a b U V (O i hi b (.inl hb))) V).app _
 ·exact(h.kE i hi b hb x a (hold x a b U V (O i hi b (.inr hb))) V ah).app _
theorem BS.congr{S':Nat->St}(h:BS t w N S Sh)(K:∀i,i<N->(S' i).E=(S i).E/\(S' i).H=(S i).H):BS t w N S' Sh:=by
 refine⟨λi hi=>⟨by rw [(K i hi).1];exact(h.fits i hi).e,by rw [(K i hi).2];exact(h.fits i hi).h,by rw [(K i hi).1,(K i hi).2];exact(h.fits i hi).d⟩,λi j hi O U b=>?_,λi hi b=>?_,h.F0,h.clean,h.low,λi hi b=>?_,λi hi b=>?_⟩
 ·rw [(K i hi).2,(K j O).1,(K j O).2];exact h.hh i j hi O U b
 ·rw [(K i hi).1,(K i hi).2];exact h.sh i hi b
 ·rw [(K i hi).2];exact h.kH i hi b
 ·rw [(K i hi).1];exact h.kE i hi b
theorem BS.less(h:BS t w N S Sh){i:Nat}{s':St}(ae:∀b o,s'.E b=some o->(S i).E b=some o)(ag:∀b o,s'.H b=some o->(S i).H b=some o):BS t w N (upd S i s') Sh:=by
 have Y:∀j b o,(upd S i s' j).E b=some o->(S j).E b=some o:=by
  intro j b o K;by_cases e:j=i
  ·subst e;rw [upd_same] at K;exact ae b o K
  ·rwa [upd_ne _ _ e] at K
 have e2:∀j b o,(upd S i s' j).H b=some o->(S j).H b=some o:=by
  intro j b o K;by_cases e:j=i
  ·subst e;rw [upd_same] at K;exact ag b o K
  ·rwa [upd_ne _ _ e] at K
 have n1:∀j b,(S j).E b=none->(upd S i s' j).E b=none:=by
  intro j b hb;cases V:(upd S i s' j).E b with
  | none=>rfl
  | some o=>rw [Y j b o V] at hb;cases hb
 have U:∀j b,(S j).H b=none->(upd S i s' j).H b=none:=by
  intro j b hb;cases V:(upd S i s' j).H b with
  | none=>rfl
  | some o=>rw [e2 j b o V] at hb;cases hb
 have Z:∀j b,(upd S i s' j).E b≠none->(S j).E b≠none:=λj b hb x=>hb (n1 j b x);have p2:∀j b,(upd S i s' j).H b≠none->(S j).H b≠none:=λj b hb x=>hb (U j b x);exact⟨λj O=>⟨λb o K=>(h.fits j O).e b o (Y j b o K),λb o K=>(h.fits j O).h b o (e2 j b o K),λb hb=>U j b ((h.fits j O).d b (Z j b hb))⟩,
  λa c aa ab ac b hb=>⟨U c b (h.hh a c aa ab ac b (p2 a b hb)).1,n1 c b (h.hh a c aa ab ac b (p2 a b hb)).2⟩,
  λj O b hb=>⟨U j b (h.sh j O b hb).1,n1 j b (h.sh j O b hb).2⟩,h.F0,h.clean,h.low,
  λj O b hb=>h.kH j O b (p2 j b hb),λj O b hb=>h.kE j O b (Z j b hb)⟩
theorem BS.push(h:BS t w N S Sh){i:Nat}(hi:i<N){E:LH}(Z:∀b o,E b=some o->(S i).E b=some o)
  (ac:∀b,E b≠none->∀x a,touchAt t x=some a->CQ a.loc=some b->a.write=true->Knows t N x):BS t w (N+1) (upd S N ⟨E,λ_=>none,false⟩) Sh:=by
 have O:∀j,j<N->upd S N ⟨E,λ_=>none,false⟩ j=S j:=λj K=>upd_ne _ _ (by omega);have ag:∀b,E b≠none->(S i).E b≠none:=λb hb=>by obtain⟨o,V⟩:=HK hb;rw [Z b o V];simp
 have ab:∀b,(S i).E b=none->E b=none:=λb hb=>by
  cases aa:E b with
  | none=>rfl
  | some o=>rw [Z b o aa] at hb;cases hb
 have cs:∀j,j<N+1->j<N∨j=N:=λj K=>by omega
 constructor
 ·intro j K;rcases cs j K with K | rfl
  ·rw [O j K];exact h.fits j K
  ·rw [upd_same];exact⟨λb o V=>(h.fits i hi).e b o (Z b o V),λb o V=>(by cases V),λb _=>rfl⟩
 ·intro a c U Y ae b hb;rcases cs a U with U | rfl
  ·rw [O a U] at hb;rcases cs c Y with Y | rfl
   ·rw [O c Y];exact h.hh a c U Y ae b hb
   ·rw [upd_same];refine⟨rfl,ab b ?_⟩;by_cases e:a=i
    ·subst e;cases aa:(S a).E b with
     | none=>rfl
     | some o=>exact absurd ((h.fits a U).d b (by rw [aa];simp)) hb
    ·exact(h.hh a i U hi e b hb).2
  ·rw [upd_same] at hb;exact absurd rfl hb
 ·intro j K b hb;rcases cs j K with K | rfl
  ·rw [O j K];exact h.sh j K b hb
  ·rw [upd_same];exact⟨rfl,ab b (h.sh i hi b hb).2⟩
 ·exact h.F0
 ·exact h.clean
 ·exact h.low
 ·intro j K b hb;rcases cs j K with K | rfl
  ·rw [O j K] at hb;exact h.kH j K b hb
  ·rw [upd_same] at hb;exact absurd rfl hb
 ·intro j K b hb;rcases cs j K with K | rfl
  ·rw [O j K] at hb;exact h.kE j K b hb
  ·rw [upd_same] at hb;exact ac b hb
theorem BS.share(h:BS t w N S Sh){i:Nat}(hi:i<N){b₀:Nat}{o₀:Obj}(U:(S i).H b₀=some o₀):
  BS t w N (upd S i {S i with H:=λb=>if b=b₀ then none else(S i).H b}) (λb=>Sh b∨b=b₀):=by
 have K:BS t w N (upd S i {S i with H:=λb=>if b=b₀ then none else(S i).H b}) Sh:=
  h.less (λb o O=>O) (λb o O=>by simp only at O;split at O <;> first | (cases O;done) | exact O)
 have Z:b₀<w.heap.size:=by
  have:=(h.fits i hi).h b₀ o₀ U;rcases Nat.lt_or_ge b₀ w.heap.size with V | V
  ·exact V
  ·simp [Array.getElem?_eq_none V] at this
 refine⟨K.fits,K.hh,λj Y b hb=>?_,λb hb=>hb.elim (K.F0 b) (λe=>e▸Z),K.clean,K.low,K.kH,K.kE⟩;rcases hb with hb | rfl
 ·exact K.sh j Y b hb
 ·by_cases e:j=i
  ·subst e;rw [upd_same];refine⟨by simp,?_⟩;cases aa:(S j).E b with
   | none=>rfl
   | some o=>have:=(h.fits j Y).d b (by rw [aa];simp);rw [U] at this;cases this
  ·rw [upd_ne _ _ e];exact h.hh i j hi Y (Ne.symm e) b (by rw [U];simp)
end
end Pal
namespace Pal
open Go Go.Conc
open Go.ConcN (upd upd_same upd_ne sumTo sumTo_upd)
abbrev GP:=Gs_
structure M4 where
 l:Bool
 k:Bool
 s:Bool
 w:Nat
instance:DecidableEq M4:=λa b=>decidable_of_iff (a.l=b.l/\a.k=b.k/\a.s=b.s/\a.w=b.w) ⟨λh=>by cases a;cases b;simp_all,λh=>by subst h;simp⟩
def M4.zero:M4:=⟨false,false,false,0⟩
def M4.num(m:M4):Int:=((m.l.toNat+2*m.k.toNat+4*m.s.toNat+8*m.w:Nat):Int)
inductive LP where
 | FQ | GZ | Eh (sv aw:Bool) (it:Nat) | Cn (sv aw:Bool) (it:Nat) (old:M4) | HZ (sv:Bool) | Cz (sv:Bool) | FP | Eu (sv:Bool) | Eg (ex:Bool) | len | Kh | Ju | Fs
 | Gn | JC | Jw | Jq | Hw | EF (old:M4) | G3 | ET (st:Bool) | EU
inductive Ph where
 | GY (k:Nat) | Gi | Iw | G2 | GB | GW | Fb
 | Dl | FN (m:Nat) | G1 (v:Nat) | HB | Fl | GX | FR | FZ | Hm
 | F1 (j:Nat) | H5 (j:Nat) | Hu (j:Nat) | GG (j:Nat) | FE (j:Nat) | GC | Fz (K:List Nat) (vs:Lv_)
 | HD | H7 | H0 | Ic (j:Nat)
 | lk (k:Nat) (p:LP)
inductive Nx where
 | ph (p:Ph) | gone (d:Nat)
structure Fam where
 wg:Nat
 mu:Nat
 fd:Nat
 ty:TypeId
 Zg:TypeId
 Zh:TypeId
 n:Nat
 msg:Nat->Value->LH->Prop
 fin:GP
namespace Fam
variable (F:Fam)
def has(_:Fam)(_:Nat):Bool:=false
def KK:Int:=4294967296
def Hz(st sm:Int):Obj:= .cells #[.int .u64 st,.int .u32 sm] F.ty (0,0)
def word(v wt:Nat):Int:=(v:Int)*KK+wt
def WG(w:World)(v wt sm:Nat):Prop:=w.heap[F.wg]? =some (F.Hz (word v wt) sm)
def put(w:World)(v wt sm:Nat):World:={w with heap:=w.heap.setIfInBounds F.wg (F.Hz (word v wt) sm)}
def sA:Addr:=⟨F.wg,0,none⟩
def mA:Addr:=⟨F.wg,1,none⟩
def HA(st sm:Int):Obj:= .cells #[.int .i32 st,.int .u32 sm] F.Zg (0,0)
def MU(w:World)(m:M4)(q:Nat):Prop:=w.heap[F.mu]? =some (F.HA m.num q)
def FA(w:World)(m:M4)(q:Nat):World:={w with heap:=w.heap.setIfInBounds F.mu (F.HA m.num q)}
def uA:Addr:=⟨F.mu,0,none⟩
def qA:Addr:=⟨F.mu,1,none⟩
def H6(f:Nat->Value):Obj:= .cells (Array.ofFn λi:Fin F.n=>f i) F.Zh (0,0)
def FD(w:World)(f:Nat->Value):Prop:=w.heap[F.fd]? =some (F.H6 f)
def G4(w:World)(f:Nat->Value):World:={w with heap:=w.heap.setIfInBounds F.fd (F.H6 f)}
def Ce(a:Addr):Event:=⟨.cell a,false,true⟩
def En(a:Addr):Event:=⟨.cell a,true,true⟩
def CI(m:Mark):Event:=⟨.mark m,false,true⟩
def act:Ph->Nat->Nat->Nat->Option ((Nat×Nat×Nat)×Array Event×Nx)
 | .Gi,v,wt,sm=>some ((v,wt,sm),#[CI (.releaseMerge F.sA)],.ph .Iw)
 | .Iw,v,wt,sm=>some ((v,wt,sm),#[CI .disable],.ph .G2)
 | .G2,v,wt,sm=>if 1<=v/\v<2147483648/\wt<=1 then some ((v - 1,wt,sm),#[Ce F.sA,En F.sA],if v=1/\wt=1 then .ph .GB else .gone 1) else none
 | .GB,v,wt,sm=>if v=0/\wt=1 then some ((0,1,sm),#[Ce F.sA],.ph .GW) else none
 | .GW,v,wt,sm=>if v=0/\wt=1 then some ((0,0,sm),#[En F.sA],.ph .Fb) else none
 | .Fb,v,wt,sm=>if sm=0 then some ((v,wt,1),semEvents F.mA,.gone 1) else none
 | .Dl,v,wt,sm=>some ((v,wt,sm),#[CI .disable],.ph (.FN F.n))
 | .FN m,v,wt,sm=>if v<=m/\wt=0 then some ((v,0,sm),#[Ce F.sA],if v=0 then .ph .FR else .ph (.G1 v)) else none
 | .G1 m,v,wt,sm=>if v<=m/\1<=m/\wt=0 then some (if v=m then((v,1,sm),#[Ce F.sA,En F.sA],.ph .H7) else((v,0,sm),#[Ce F.sA],.ph (.FN (m - 1)))) else none
 | .HB,v,wt,sm=>some ((v,wt,sm),#[CI (.write F.mA)],.ph .Fl)
 | .Fl,v,wt,sm=>if sm=1 then some ((v,wt,0),semEvents F.mA,.ph .GX) else none
 | .GX,v,wt,sm=>if v=0/\wt=0 then some ((0,0,sm),#[Ce F.sA],.ph .FR) else none
 | .FR,v,wt,sm=>some ((v,wt,sm),#[CI .enable],.ph .H0)
 | .HD,v,wt,sm=>some ((v,wt,sm),#[],.ph .Gi)
 | .H7,v,wt,sm=>some ((v,wt,sm),#[],.ph .HB)
 | .H0,v,wt,sm=>some ((v,wt,sm),#[],.ph .FZ)
 | .Ic j,v,wt,sm=>some ((v,wt,sm),#[],.ph (.Hu j))
 | .F1 j,v,wt,sm=>some ((v,wt,sm),#[CI .disable],.ph (.H5 j))
 | .H5 j,v,wt,sm=>if v<2147483647/\wt=0 then some ((v+1,0,sm),#[Ce F.sA,En F.sA],if v=0 then .ph (.Ic j) else .ph (.GG j)) else none
 | .Hu j,v,wt,sm=>some ((v,wt,sm),#[CI (.read F.mA)],.ph (.GG j))
 | .GG j,v,wt,sm=>some ((v,wt,sm),#[CI .enable],.ph (.FE j))
 | _,_,_,_=>none
abbrev LO:=M4×Nat×Array Event×Option LP
def Fo(sv aw:Bool)(it:Nat)(old m:M4)(q:Nat):List LO:=
 (if old.l=true/\old.s=false/\it<4 then
  (if aw=false/\old.k=false/\old.w≠0 then
   [if m=old then({m with k:=true},q,#[Ce F.uA,En F.uA],some (.Eh sv true (it+1))) else(m,q,#[Ce F.uA],some (.Eh sv aw (it+1)))]
  else [(m,q,#[],some (.Cn sv aw (it+1) m))])
 else [])++
 (if m=old then
  (if old.l=false/\old.s=false then [({m with l:=true,k:= !aw&&m.k},q,#[Ce F.uA,En F.uA],some .len)]
  else [({m with k:= !aw&&m.k,s:=m.s || (sv&&m.l),w:=m.w+1},q,#[Ce F.uA,En F.uA],some (.HZ sv)),({m with k:= !aw&&m.k,s:=m.s || (sv&&m.l),w:=m.w+1},q,#[Ce F.uA,En F.uA],some (.Cz sv))])
 else [(m,q,#[Ce F.uA],some (.Eh sv aw it))])
def BW:LP->M4->Nat->List LO
 | .FQ,m,q=> [(m,q,#[CI .disable],some .GZ)]
 | .GZ,m,q=>if m=M4.zero then [(⟨true,false,false,0⟩,q,#[Ce F.uA,En F.uA],some .len)] else [(m,q,#[Ce F.uA],some (.Eh false false 0))]
 | .Eh sv aw it,m,q=> [(m,q,#[],some (.Cn sv aw it m))]
 | .Cn sv aw it old,m,q=>F.Fo sv aw it old m q
 | .HZ sv,m,q=> [(m,q,#[],some (.Cz sv))]
 | .Cz sv,m,q=> [(m,q - 1,semEvents F.qA,some (if sv then .Eu true else .FP))]
 | .FP,m,q=> [(m,q,#[],some (.Eu false)),(m,q,#[],some (.Eu true))]
 | .Eu sv,m,q=>if m.s=true then [(m,q,#[],some (.Eg (!sv || m.w==1)))] else [(m,q,#[],some (.Cn sv true 0 m))]
 | .Eg ex,m,q=> [(⟨true,m.k,!ex,m.w - 1⟩,q,#[Ce F.uA,En F.uA],some .len)]
 | .len,m,q=> [(m,q,#[CI .enable],some .Kh)]
 | .Kh,m,q=> [(m,q,#[],some .Ju)]
 | .Ju,m,q=> [(m,q,#[CI (.acquire F.uA)],some .Fs)]
 | .Fs,_,_=> []
 | .Gn,m,q=> [(m,q,#[],some .JC)]
 | .JC,m,q=> [(m,q,#[],some .Jw)]
 | .Jw,m,q=> [(m,q,#[CI (.releaseMerge F.uA)],some .Jq)]
 | .Jq,m,q=> [(m,q,#[CI .disable],some .Hw)]
 | .Hw,m,q=> [({m with l:=false},q,#[Ce F.uA,En F.uA],some (if m.s=true then .ET true else if m.k=false/\m.w≠0 then .EF {m with l:=false} else .EU))]
 | .EF old,m,q=>if m=old then [(⟨false,true,false,old.w - 1⟩,q,#[Ce F.uA,En F.uA],some (.ET false))] else [(m,q,#[Ce F.uA],some .G3)]
 | .G3,m,q=> [(m,q,#[],some (if m.l=false/\m.k=false/\m.s=false/\m.w≠0 then .EF m else .EU))]
 | .ET _,m,q=> [(m,q+1,semEvents F.qA,some .EU)]
 | .EU,m,q=> [(m,q,#[CI .enable],none)]
def CF:Ph->Bool
 | .F1 _ | .H5 _ | .Hu _ | .GG _ | .FE _ | .GC | .Fz _ _ | .Ic _=>true
 | .Dl | .FN _ | .G1 _ | .HB | .Fl | .GX | .FR | .FZ | .Hm | .H7 | .H0=>true
 | _=>false
def CP:Ph->Bool
 | .Iw | .G2 | .GB | .GW | .Fb=>true
 | _=>false
def IZ:Ph->St->St
 | .Gi,_=> .quiet
 | _,s=>s
def start(_:Fam)(k:Nat):Ph:= .lk k .FQ
def Fj(j:Nat):Ph:=if j+1=F.n then .GC else .F1 (j+1)
def Ew(j:Nat):Ph:=if j+1=F.n then .Dl else .F1 (j+1)
def C9(k:Nat):Option LP->Ph
 | some p=> .lk k p
 | none=> .HD
end Fam
def C8(m:M4):Prop:=m.w<134217728
def Dy:LP->M4->Nat->Prop
 | .Cn sv aw it old,m,_=>(aw=true->old.k=true)/\(sv=true->aw=true)/\it<=4/\C8 old/\C8 m/\(aw=true->m.k=true)
 | .Eh sv aw it,m,_=>(sv=true->aw=true)/\it<=4/\C8 m/\(aw=true->m.k=true)
 | .Cz _,_,q=>q≠0
 | .Eu _,m,_=>(m.s=true->m.l=false/\m.k=false/\m.w≠0)/\(m.s=false->m.k=true)/\C8 m
 | .Eg ex,m,_=>m.s=true/\m.l=false/\m.k=false/\1<=m.w/\(ex=false->2<=m.w)/\C8 m
 | .Hw,m,_=>m.l=true/\C8 m
 | .EF old,m,_=>old.l=false/\old.k=false/\old.s=false/\old.w≠0/\C8 old/\C8 m
 | .ET _,m,q=>q<=1/\C8 m
 | _,m,_=>C8 m
def Way(P:Program)(main:Bool)(X:GP):GP:=(A1 P main).ok X
theorem Jr.Ag{P:Program}{main:Bool}{Q K:GP}(h:∀g s,Q g s->K g s):∀{r:Rk} {g:Goroutine} {s:St},Jr P main Q r g s->Jr P main K r g s
 | .leaf,_,_,x=>h _ _ x
 | .node _,_,_,.inl x=> .inl (h _ _ x)
 | .node _,_,_,.inr ⟨O,x⟩=> .inr ⟨O,λw f=>let ⟨g',s',w',es,U,V,Y⟩:=x w f;⟨g',s',w',es,U,Jr.Ag h V,Y⟩⟩
theorem Way.Ag{P:Program}{main:Bool}{Q K:GP}(h:∀g s,Q g s->K g s){g:Goroutine}{s:St}(x:Way P main Q g s):Way P main K g s:=
 let ⟨r,O⟩:=x;⟨r,Jr.Ag (λg s ⟨s₀,a,b⟩=>⟨s₀,a,h g s₀ b⟩) O⟩
def Gh(w K w':World):Prop:=w'.heap=K.heap/\w'.tape=w.tape/\F5 w.os w'.os/\w'.output=w.output
section
variable (P:Program)(F:Fam)
def LG(X:Ph->GP)(main:Bool):Nx->GP
 | .ph p,g,s=>Way P main (X p) g s
 | .gone d,g,_=>∃q,QuitsD P q d g
def Fam.Jf(H:LH)(f:Nat->Value):LH:=λb=>if b=F.fd then some (F.H6 f) else H b
structure GI (X:Ph->GP) (p:Ph) (g:Goroutine) (s:St):Prop where
 run:g.status= .running
 offers:g.offers=none
 quiet:Fam.CP p=true->s= .quiet
 live:Fam.CP p=false->s.q=false
 act:∀v wt sm v' wt' sm' es K,F.act p v wt sm=some ((v',wt',sm'),es,K)->
  ∃g',(∀w,F.WG w v wt sm->stepG P (Fam.CF p) g w= .go g' (F.put w v' wt' sm') es)/\g'.status= .running/\LG P X (Fam.CF p) K g' (Fam.IZ p s)
 Iv:(p= .Fb∨∃k b,p= .lk k (.ET b))->mayWake P g=true
 EV:p= .Fl->∀w v wt,F.WG w v wt 0->stepG P true g w= .go {g with status:= .blocked} w #[]
 go:∀j,p= .FE j->∃g' child,g'.status= .running/\child.status= .running/\(∀w,stepG P true g w= .spawn g' child w #[])/\Way P false (X (F.start j)) child ⟨s.E,λ_=>none,false⟩/\Way P true (X (F.Ew j)) g' s
 lk:∀k l,p= .lk k l->l≠ .Fs->∀w m q,F.MU w m q->Dy l m q->∃m' q' es x g' w',(m',q',es,x)∈F.BW l m q/\stepG P false g w= .go g' w' es/\Gh w (F.FA w m' q') w'/\g'.status= .running/\Way P false (X (Fam.C9 k x)) g' s
 Cz:∀k sv,p= .lk k (.Cz sv)->∀w m,F.MU w m 0->stepG P false g w= .go {g with status:= .blocked} w #[]
 store:∀k,p= .lk k .Fs->∃v,F.msg k v s.E/\∃g',g'.status= .running/\(∀w f,F.FD w f->stepG P false g w= .go g' (F.G4 w (upd f k v)) #[⟨.cell ⟨F.fd,k,none⟩,true,false⟩])/\Way P false (X (.lk k .Gn)) g' s
 fin:p= .FZ->∃g',(∀w,stepG P true g w= .go g' w #[Fam.CI (.acquire F.sA)])/\∀E' f,Le s.E E'->E' F.fd=none->(∀b,E' b≠none->s.H b=none)->(∀k,k<F.n->F.msg k (f k) E')->F.fin g' ⟨E',F.Jf s.H f,false⟩
theorem LG.Ag{X O:Ph->GP}(h:∀p g s,X p g s->O p g s){main:Bool}{K:Nx}{g:Goroutine}{s:St}(x:LG P X main K g s):LG P O main K g s:=by
 cases K with
 | ph p=>exact Way.Ag (h p) x
 | gone d=>exact x
theorem GI.Ag{X Z:Ph->GP}(h:∀p g s,X p g s->Z p g s){p:Ph}{g:Goroutine}{s:St}(x:GI P F X p g s):GI P F Z p g s where
 run:=x.run
 offers:=x.offers
 quiet:=x.quiet
 live:=x.live
 act v wt sm v' wt' sm' es aa e:=let ⟨g',K,O,U⟩:=x.act v wt sm v' wt' sm' es aa e;⟨g',K,O,U.Ag P h⟩
 Iv:=x.Iv
 EV:=x.EV
 go j e:=let ⟨g',c,K,O,U,V,Y⟩:=x.go j e;⟨g',c,K,O,U,V.Ag (h _),Y.Ag (h _)⟩
 lk k l e ab w m q hm ac:=let ⟨m',q',es,y,g',w',K,O,U,V,Y⟩:=x.lk k l e ab w m q hm ac;⟨m',q',es,y,g',w',K,O,U,V,Y.Ag (h _)⟩
 Cz:=x.Cz
 store k e:=let ⟨v,K,g',O,U,V⟩:=x.store k e;⟨v,K,g',O,U,V.Ag (h _)⟩
 fin:=x.fin
def Stop(p:Ph)(g:Goroutine)(s:St):Prop:=∃X:Ph->GP,(∀p g s,X p g s->GI P F X p g s)/\X p g s
variable {P F}
theorem Stop.law{p:Ph}{g:Goroutine}{s:St}(h:Stop P F p g s):GI P F (Stop P F) p g s:=by
 obtain⟨X,O,K⟩:=h;exact(O p g s K).Ag P F λp g s K=>⟨X,O,K⟩
theorem GI.stop{p:Ph}{g:Goroutine}{s:St}(h:GI P F (Stop P F) p g s):Stop P F p g s:=
 ⟨λp g s=>GI P F (Stop P F) p g s,λ_ _ _ x=>x.Ag P F λ_ _ _ y=>y.law,h⟩
end
end Pal
