/- DebtGroups: a part (1 of 8) of the proof of its row. -/
import Derived.Conc.Own5
import Derived.Conc.Listed
import Derived.Conc.DeferLaws
import Derived.Orders
import Derived.Conc.Beside
import Derived.Conc.CrowdComm
import Derived.Conc.TokenWalk
import Derived.Conc.MarkLaws
import Derived.Conc.AtomicLaws2
import Derived.Conc.ClockLaws
set_option linter.all false
set_option maxRecDepth 100000
namespace Pal
open Go Go.Conc
abbrev LH:=Nat->Option Obj
structure St where
 E:LH
 H:LH
 q:Bool
abbrev Ld_:=List Deferred
abbrev Ao_:=Array Oper
abbrev Li_:=List Item
abbrev Lf_:=List Frame
abbrev On_:=Option (Nat×Bool)
abbrev Ae_:=Array Edge
abbrev Gs_:=Goroutine->St->Prop
abbrev Lv_:=List Value
abbrev Av_:=Array Value
def St.get(s:St)(b:Nat):Option Obj:=match s.E b with | some o=>some o | none=>s.H b
structure Fits (s:St) (w:World):Prop where
 e:∀b o,s.E b=some o->w.heap[b]? =some o
 h:∀b o,s.H b=some o->w.heap[b]? =some o
 d:∀b,s.E b≠none->s.H b=none
theorem Fits.get{s:St}{w:World}(f:Fits s w){b:Nat}{o:Obj}(h:s.get b=some o):w.heap[b]? =some o:=by
 unfold St.get at h;split at h
 ·rename_i o' K;cases h;exact f.e _ _ K
 ·exact f.h _ _ h
theorem Fits.Tv{s:St}{w:World}(f:Fits s w){b:Nat}{o:Obj}(h:s.H b=some o):b<w.heap.size:=by
 have:=f.h _ _ h;rcases Nat.lt_or_ge b w.heap.size with K | K
 ·exact K
 ·simp [Array.getElem?_eq_none K] at this
theorem Fits.lt{s:St}{w:World}(f:Fits s w){b:Nat}{o:Obj}(h:s.get b=some o):b<w.heap.size:=by
 have:=f.get h;rcases Nat.lt_or_ge b w.heap.size with K | K
 ·exact K
 ·simp [Array.getElem?_eq_none K] at this
def cellAt(o:Obj)(a:Addr):Option Value:=match o with | .cells c _ _=>if a.spot.isSome then none else c[a.off]? | _=>none
def frozenAt(o:Obj)(a:Addr):Bool:=match o with | .cells _ _ (lo,hi)=>lo<=a.off&&a.off<hi | _=>false
def shapeOf(o:Obj):Option (TypeId×Nat):=match o with | .cells c e _=>some (e,c.size) | _=>none
def CU:Value->Bool | .agg _ | .tuple _=>false | _=>true
def Ke(o:Obj)(a:Addr)(v:Value):Obj:=match o with | .cells c e f=> .cells (if a.spot.isSome then c else c.setIfInBounds a.off v) e f | o=>o
def Jj(o:Obj):Bool:=match o with | .cells ..=>false | .chan ..=>false | .pending ..=>false | .view ..=>false | .number ..=>false | _=>true
def St.cell? (s:St)(a:Addr):Option Value:=(s.get a.block).bind (cellAt · a)
def St.upd(s:St)(b:Nat)(o:Obj):St:={s with H:=λx=>if x=b then some o else s.H x}
theorem Qa{w:World}{a:Addr}{o:Obj}(h:w.heap[a.block]? =some o):w.cell? a=cellAt o a:=by
 unfold World.cell? cellAt;rw [h];cases o <;> rfl
theorem PY{w:World}{a:Addr}{o:Obj}(h:w.heap[a.block]? =some o):w.frozen? a=frozenAt o a:=by
 unfold World.frozen? frozenAt;rw [h];cases o <;> rfl
theorem TZ{w:World}{b:Nat}{o:Obj}(h:w.heap[b]? =some o):w.shape? b=shapeOf o:=by
 unfold World.shape? shapeOf;rw [h];cases o <;> rfl
def lp(P:Program){α:Type}:Sem α->St->(α->St->Prop)->(Halt->St->Prop)->Prop
 | .pure a,s,Q,_=>Q a s
 | .load m a k,s,Q,X=>m= .plain/\∃v,s.cell? a=some v/\lp P (k v) s Q X
 | .store m a v k,s,Q,X=>m= .plain/\CU v=true/\∃o,s.H a.block=some o/\(cellAt o a).isSome=true/\frozenAt o a=false/\lp P k (s.upd a.block (Ke o a v)) Q X
 | .new o k,s,Q,X=>s.q=false/\∀r,s.E r=none->s.H r=none->lp P (k r) (s.upd r o) Q X
 | .shape r k,s,Q,X=>∃o,s.get r=some o/\lp P (k (shapeOf o)) s Q X
 | .freeze _ _ _,_,_,_=>False
 | .frozen a k,s,Q,X=>∃o,s.get a.block=some o/\lp P (k (frozenAt o a)) s Q X
 | .getObj r k,s,Q,X=>∃o,s.get r=some o/\Jj o=true/\lp P (k o) s Q X
 | .setObj r o k,s,Q,X=>(∃o₀,s.H r=some o₀/\Jj o₀=true)/\Jj o=true/\lp P k (s.upd r o) Q X
 | .choose q k,s,Q,X=>if q.forced then lp P (k 0) s Q X else s.q=false/\∀t,lp P (k (q.cut t)) s Q X
 | .sys _ _,_,_,_=>False
 | .program k,s,Q,X=>lp P (k P) s Q X
 | .mark m k,s,Q,X=>((s.q=false/\m= .noRoom)∨∃f,m= .extern f)/\lp P k s Q X
 | .halt h,s,_,X=>X h s
theorem Ec{P:Program}{α:Type}(x:Sem α):∀{s:St} {Q Y:α->St->Prop} {X Z:Halt->St->Prop},lp P x s Q X->(∀a s,Q a s->Y a s)->(∀h s,X h s->Z h s)->lp P x s Y Z:=by
 induction x with
 | pure a=>intro s Q Y X Z h K O;exact K _ _ h
 | load m a k U=>intro s Q Y X Z h K O;obtain⟨aa,v,ab,ac⟩:=h;exact⟨aa,v,ab,U _ ac K O⟩
 | store m a v k U=>intro s Q Y X Z h K O;obtain⟨aa,ab,o,ac,ag,ah,ai⟩:=h;exact⟨aa,ab,o,ac,ag,ah,U ai K O⟩
 | new o k U=>intro s Q Y X Z h K O;exact⟨h.1,λr aa ab=>U _ (h.2 r aa ab) K O⟩
 | shape r k U=>intro s Q Y X Z h K O;obtain⟨o,aa,ab⟩:=h;exact⟨o,aa,U _ ab K O⟩
 | freeze a n k U=>intro s Q Y X Z h K O;exact h
 | frozen a k U=>intro s Q Y X Z h K O;obtain⟨o,aa,ab⟩:=h;exact⟨o,aa,U _ ab K O⟩
 | getObj r k U=>intro s Q Y X Z h K O;obtain⟨o,aa,ab,ac⟩:=h;exact⟨o,aa,ab,U _ ac K O⟩
 | setObj r o k U=>intro s Q Y X Z h K O;obtain⟨aa,ab,ac⟩:=h;exact⟨aa,ab,U ac K O⟩
 | choose q k U=>
  intro s Q Y X Z h K O;simp only [lp] at h ⊢;split
  ·rename_i ae;rw [if_pos ae] at h;exact U _ h K O
  ·rename_i ae;rw [if_neg ae] at h;exact⟨h.1,λt=>U _ (h.2 t) K O⟩
 | sys c k U=>intro s Q Y X Z h K O;exact h
 | program k U=>intro s Q Y X Z h K O;exact U _ h K O
 | mark m k U=>intro s Q Y X Z h K O;exact⟨h.1,U h.2 K O⟩
 | halt h=>intro s Q Y X Z h K O;exact O _ _ h
theorem As{P:Program}{α β:Type}(x:Sem α)(f:α->Sem β):∀{s:St} {Q:β->St->Prop} {X:Halt->St->Prop},lp P x s (λa s'=>lp P (f a) s' Q X) X->lp P (x>>=f) s Q X:=by
 show ∀{s:St} {Q:β->St->Prop} {X:Halt->St->Prop},lp P x s (λa s'=>lp P (f a) s' Q X) X->lp P (Sem.bind x f) s Q X
 induction x with
 | pure a=>intro s Q X h;exact h
 | load m a k K=>intro s Q X h;obtain⟨O,v,U,Y⟩:=h;exact⟨O,v,U,K _ Y⟩
 | store m a v k K=>intro s Q X h;obtain⟨O,U,o,Y,aa,ab,ac⟩:=h;exact⟨O,U,o,Y,aa,ab,K ac⟩
 | new o k K=>intro s Q X h;exact⟨h.1,λr O U=>K _ (h.2 r O U)⟩
 | shape r k K=>intro s Q X h;obtain⟨o,O,U⟩:=h;exact⟨o,O,K _ U⟩
 | freeze a n k K=>intro s Q X h;exact h
 | frozen a k K=>intro s Q X h;obtain⟨o,O,U⟩:=h;exact⟨o,O,K _ U⟩
 | getObj r k K=>intro s Q X h;obtain⟨o,O,U,Y⟩:=h;exact⟨o,O,U,K _ Y⟩
 | setObj r o k K=>intro s Q X h;obtain⟨O,U,Y⟩:=h;exact⟨O,U,K Y⟩
 | choose q k K=>
  intro s Q X h;simp only [lp,Sem.bind] at h ⊢;split
  ·rename_i Z;rw [if_pos Z] at h;exact K _ h
  ·rename_i Z;rw [if_neg Z] at h;exact⟨h.1,λt=>K _ (h.2 t)⟩
 | sys c k K=>intro s Q X h;exact h
 | program k K=>intro s Q X h;exact K _ h
 | mark m k K=>intro s Q X h;exact⟨h.1,K h.2⟩
 | halt h=>intro s Q X h;exact h
structure Fr (s:St) (w:World) (s':St) (w':World):Prop where
 size:w.heap.size<=w'.heap.size
 keep:∀b,b<w.heap.size->s.H b=none->w'.heap[b]? =w.heap[b]?
 own:∀b,s'.H b≠none->s.H b≠none∨w.heap.size<=b
 ext:∀b o,s.E b=some o->s'.E b=some o
 Ex:∀b,s'.E b≠none->s.E b≠none∨s.H b≠none∨w.heap.size<=b
 tape:w'.tape=w.tape
 os:w'.os=w.os
 output:w'.output=w.output
theorem Fr.refl(s:St)(w:World):Fr s w s w:=
 ⟨Nat.le_refl _,λ_ _ _=>rfl,λ_ h=> .inl h,λ_ _ h=>h,λ_ h=> .inl h,rfl,rfl,rfl⟩
theorem Fr.trans{s K O:St}{w U Y:World}(h:Fr s w K U)(k:Fr K U O Y):Fr s w O Y where
 size:=Nat.le_trans h.size k.size
 keep b hb Z:=by
  rw [k.keep b (Nat.lt_of_lt_of_le hb h.size) ?_,h.keep b hb Z];by_cases aa:K.H b=none
  ·exact aa
  ·rcases h.own b aa with x | x
   ·exact absurd Z x
   ·omega
 own b hb:=by
  rcases k.own b hb with x | x
  ·exact h.own b x
  ·exact .inr (Nat.le_trans h.size x)
 ext b o ab:=k.ext b o (h.ext b o ab)
 Ex b hb:=by
  rcases k.Ex b hb with x | x | x
  ·exact h.Ex b x
  ·rcases h.own b x with y | y
   ·exact .inr (.inl y)
   ·exact .inr (.inr y)
  ·exact .inr (.inr (Nat.le_trans h.size x))
 tape:=k.tape.trans h.tape
 os:=k.os.trans h.os
 output:=k.output.trans h.output
def Gy(s:St)(w w':World)(b:Nat)(write:Bool):Prop:=
 b<w'.heap.size/\(s.H b≠none∨w.heap.size<=b∨(s.E b≠none/\write=false))
def Ev(s:St)(w w':World)(e:Event):Prop:=
 match e.loc with
 | .cell a=>e.sync=false/\Gy s w w' a.block e.write
 | .obj r=>e.sync=false/\Gy s w w' r e.write
 | .mark (.extern _)=>True
 | .mark .noRoom=>True
 | _=>False
theorem Gy.Ag{s K:St}{w O w' U:World}{b:Nat}{wr:Bool}(h:Fr s w K O)(Y:w'.heap.size<=U.heap.size)(t:Gy K O w' b wr):Gy s w U b wr:=by
 refine⟨Nat.lt_of_lt_of_le t.1 Y,?_⟩;rcases t.2 with x | x | ⟨x,y⟩
 ·rcases h.own b x with z | z
  ·exact .inl z
  ·exact .inr (.inl z)
 ·exact .inr (.inl (Nat.le_trans h.size x))
 ·rcases h.Ex b x with z | z | z
  ·exact .inr (.inr ⟨z,y⟩)
  ·exact .inl z
  ·exact .inr (.inl z)
theorem Ev.Ag{s K:St}{w O w' U:World}{e:Event}(h:Fr s w K O)(Y:w'.heap.size<=U.heap.size)(t:Ev K O w' e):Ev s w U e:=by
 unfold Ev at t ⊢;split <;> rename_i he <;> simp only [he] at t
 ·exact⟨t.1,t.2.Ag h Y⟩
 ·exact⟨t.1,t.2.Ag h Y⟩
 ·trivial
 ·trivial
def Ko{α:Type}:Result α->World | .ok _ w=>w | .halt _ w=>w
def YC{α:Type}(Q:α->St->Prop)(X:Halt->St->Prop)(s:St):Result α->Prop | .ok a _=>Q a s | .halt h _=>X h s
theorem QR{s:St}{b:Nat}{o:Obj}(h:s.get b=some o)(K:s.H b=none):s.E b≠none:=by
 intro e;unfold St.get at h;rw [e] at h;simp only at h;rw [K] at h;cases h
theorem Ok{s:St}{w w':World}{b:Nat}{o:Obj}(f:Fits s w)(U:s.E b=none)(hb:w'.heap[b]? =some o)(Y:∀c,c≠b->∀x,w.heap[c]? =some x->w'.heap[c]? =some x):Fits (s.upd b o) w' where
 e c x K:=by
  have O:c≠b:=λe=>by subst e;simp [St.upd] at K;rw [U] at K;cases K
  exact Y c O x (f.e c x K)
 h c x K:=by
  simp only [St.upd] at K;split at K
  ·rename_i e;subst e;cases K;exact hb
  ·rename_i O;exact Y c O x (f.h c x K)
 d c K:=by
  have O:c≠b:=λe=>by subst e;exact K U
  simp only [St.upd,if_neg O];exact f.d c K
theorem My{P:Program}{α:Type}(x:Sem α):∀{s:St} {w:World} {Q:α->St->Prop} {X:Halt->St->Prop},lp P x s Q X->Fits s w->
  ∃s',Fits s' (Ko (x.run P w))/\Fr s w s' (Ko (x.run P w))/\(∀e∈x.events P w #[],Ev s w (Ko (x.run P w)) e)/\YC Q X s' (x.run P w):=by
 induction x with
 | pure a=>intro s w Q X h f;exact⟨s,f,.refl _ _,by simp [Sem.events_pure'],h⟩
 | load m a k O=>
  intro s w Q X h f;obtain⟨rfl,v,aq,h⟩:=h;obtain⟨o,K,aD⟩:=Option.bind_eq_some_iff.1 aq;have hw:=f.get K;have ar:w.cell? a=some v:=by rw [Qa hw,aD]
  have U:(Sem.load Mode.plain a k).run P w=(k v).run P w:=by simp [Sem.run,ar]
  have Y:(Sem.load Mode.plain a k).events P w #[]= #[⟨.cell a,false,false⟩]++(k v).events P w #[]:=by
   rw [← Sem.events_acc];simp only [Sem.events,Sem.runT,ar];rfl
  rw [U,Y];obtain⟨s',aa,Z,ab,ac⟩:=O v h f;refine⟨s',aa,Z,λe he=>?_,ac⟩;rcases Array.mem_append.1 he with he | he
  ·simp at he;subst he;refine⟨rfl,Nat.lt_of_lt_of_le (f.lt K) Z.size,?_⟩;by_cases al:s.H a.block=none
   ·refine .inr (.inr ⟨?_,rfl⟩);exact QR K al
   ·exact .inl al
  ·exact ab e he
 | store m a v k O=>
  intro s w Q X h f;obtain⟨rfl,aq,o,K,ar,aE,h⟩:=h;have hw:=f.h _ _ K;obtain⟨u,hu⟩:=Option.isSome_iff_exists.1 ar;have az:w.cell? a=some u:=by rw [Qa hw,hu]
  have aA:w.frozen? a=false:=by rw [PY hw,aE]
  have au:=f.Tv K;obtain⟨aw,ay,f0,rfl⟩:∃c e f,o= .cells c e f:=by cases o <;> simp [cellAt] at hu;exact⟨_,_,_,rfl⟩
  have aF:(w.setCell a v).heap[a.block]? =some (Ke (.cells aw ay f0) a v):=by
   simp [World.setCell,Ke,Array.getElem?_modify,hw]
  have am:∀c,c≠a.block->(w.setCell a v).heap[c]? =w.heap[c]? :=by
   intro c ah;simp [World.setCell,Array.getElem?_modify,Ne.symm ah]
  have ag:s.E a.block=none:=by
   cases ag:s.E a.block with
   | none=>rfl
   | some x=>have:=f.d a.block (by rw [ag];simp);rw [K] at this;cases this
  have an:Fits (s.upd a.block (Ke (.cells aw ay f0) a v)) (w.setCell a v):=Ok f ag aF (λc ah x ai=>by rw [am c ah];exact ai);have U:(Sem.store Mode.plain a v k).run P w=k.run P (w.setCell a v):=by
   cases v <;> first | (simp [CU] at aq;done) | simp [Sem.run,az,aA]
  have Y:(Sem.store Mode.plain a v k).events P w #[]= #[⟨.cell a,true,false⟩]++k.events P (w.setCell a v) #[]:=by
   rw [← Sem.events_acc];cases v <;> first | (simp [CU] at aq;done) | (simp only [Sem.events,Sem.runT,az,aA];rfl)
  have ae:Fr s w (s.upd a.block (Ke (.cells aw ay f0) a v)) (w.setCell a v):=by
   refine⟨by simp [World.setCell],λb hb aj=>am b (λe=>by subst e;rw [K] at aj;cases aj),λb hb=>?_,λ_ _ h=>h,λ_ h=> .inl h,rfl,rfl,rfl⟩;simp only [St.upd] at hb;split at hb
   ·rename_i e;subst e;exact .inl (by rw [K];simp)
   ·exact .inl hb
  rw [U,Y];obtain⟨s',aa,Z,ab,ac⟩:=O h an;refine⟨s',aa,ae.trans Z,λe he=>?_,ac⟩;rcases Array.mem_append.1 he with he | he
  ·simp at he;subst he;exact⟨rfl,Nat.lt_of_lt_of_le au (ae.trans Z).size,.inl (by rw [K];simp)⟩
  ·exact(ab e he).Ag ae (Nat.le_refl _)
 | new o k O=>
  intro s w Q X h f;have aB:s.E w.heap.size=none:=by
   cases ag:s.E w.heap.size with
   | none=>rfl
   | some x=>have:=f.e _ _ ag;simp at this
  have aG:s.H w.heap.size=none:=by
   cases ag:s.H w.heap.size with
   | none=>rfl
   | some x=>have:=f.h _ _ ag;simp at this
  have U:(Sem.new o k).run P w=(k w.heap.size).run P {w with heap:=w.heap.push o}:=by simp [Sem.run]
  have Y:(Sem.new o k).events P w #[]=(k w.heap.size).events P {w with heap:=w.heap.push o} #[]:=by simp only [Sem.events,Sem.runT]
  rw [U,Y];have an:Fits (s.upd w.heap.size o) {w with heap:=w.heap.push o}:=Ok f aB (by simp) (λc ah x ai=>by
   have:c<w.heap.size:=by
    rcases Nat.lt_or_ge c w.heap.size with ao | ao
    ·exact ao
    ·simp [Array.getElem?_eq_none ao] at ai
   simp [Array.getElem?_push,Nat.ne_of_lt this,ai])
  have ae:Fr s w (s.upd w.heap.size o) {w with heap:=w.heap.push o}:=by
   refine⟨by simp,λb hb aj=>by simp [Array.getElem?_push,Nat.ne_of_lt hb],λb hb=>?_,λ_ _ h=>h,λ_ h=> .inl h,rfl,rfl,rfl⟩;simp only [St.upd] at hb;split at hb
   ·rename_i e;subst e;exact .inr (Nat.le_refl _)
   ·exact .inl hb
  obtain⟨s',aa,Z,ab,ac⟩:=O _ (h.2 _ aB aG) an;exact⟨s',aa,ae.trans Z,λe he=>(ab e he).Ag ae (Nat.le_refl _),ac⟩
 | shape r k O=>
  intro s w Q X h f;obtain⟨o,K,h⟩:=h;have ap:=TZ (f.get K);have U:(Sem.shape r k).run P w=(k (shapeOf o)).run P w:=by simp [Sem.run,ap]
  have Y:(Sem.shape r k).events P w #[]=(k (shapeOf o)).events P w #[]:=by simp only [Sem.events,Sem.runT,ap]
  rw [U,Y];exact O _ h f
 | freeze a n k O=>intro s w Q X h f;exact h.elim
 | frozen a k O=>
  intro s w Q X h f;obtain⟨o,K,h⟩:=h;have ap:=PY (a:=a) (f.get K);have U:(Sem.frozen a k).run P w=(k (frozenAt o a)).run P w:=by simp [Sem.run,ap]
  have Y:(Sem.frozen a k).events P w #[]=(k (frozenAt o a)).events P w #[]:=by simp only [Sem.events,Sem.runT,ap]
  rw [U,Y];exact O _ h f
 | getObj r k O=>
  intro s w Q X h f;obtain⟨o,K,av,h⟩:=h;have hw:=f.get K;have U:(Sem.getObj r k).run P w=(k o).run P w:=by cases o <;> simp [Jj] at av <;> simp [Sem.run,hw]
  have Y:(Sem.getObj r k).events P w #[]= #[⟨.obj r,false,false⟩]++(k o).events P w #[]:=by
   rw [← Sem.events_acc];cases o <;> simp [Jj] at av <;> (simp only [Sem.events,Sem.runT,hw,Obj.isChan];rfl)
  rw [U,Y];obtain⟨s',aa,Z,ab,ac⟩:=O o h f;refine⟨s',aa,Z,λe he=>?_,ac⟩;rcases Array.mem_append.1 he with he | he
  ·simp at he;subst he;refine⟨rfl,Nat.lt_of_lt_of_le (f.lt K) Z.size,?_⟩;by_cases al:s.H r=none
   ·refine .inr (.inr ⟨?_,rfl⟩);exact QR K al
   ·exact .inl al
  ·exact ab e he
 | setObj r o k O=>
  intro s w Q X h f;obtain⟨⟨o₀,K,aC⟩,av,h⟩:=h;have hw:=f.h _ _ K;have au:=f.Tv K;have ag:s.E r=none:=by
   cases ag:s.E r with
   | none=>rfl
   | some x=>have:=f.d r (by rw [ag];simp);rw [K] at this;cases this
  have U:(Sem.setObj r o k).run P w=k.run P {w with heap:=w.heap.setIfInBounds r o}:=by
   cases o₀ <;> simp [Jj] at aC <;> simp [Sem.run,hw]
  have Y:(Sem.setObj r o k).events P w #[]= #[⟨.obj r,true,false⟩]++k.events P {w with heap:=w.heap.setIfInBounds r o} #[]:=by
   rw [← Sem.events_acc];cases o₀ <;> simp [Jj] at aC <;> cases o <;> simp [Jj] at av <;> (simp only [Sem.events,Sem.runT,hw,Obj.isChan];rfl)
  have am:∀c,c≠r->(w.heap.setIfInBounds r o)[c]? =w.heap[c]? :=λc ah=>by simp [Ne.symm ah]
  have an:Fits (s.upd r o) {w with heap:=w.heap.setIfInBounds r o}:=Ok f ag (by simp [au]) (λc ah x ai=>by show(w.heap.setIfInBounds r o)[c]? =_;rw [am c ah];exact ai);have ae:Fr s w (s.upd r o) {w with heap:=w.heap.setIfInBounds r o}:=by
   refine⟨by simp,λb hb aj=>am b (λe=>by subst e;rw [K] at aj;cases aj),λb hb=>?_,λ_ _ h=>h,λ_ h=> .inl h,rfl,rfl,rfl⟩;simp only [St.upd] at hb;split at hb
   ·rename_i e;subst e;exact .inl (by rw [K];simp)
   ·exact .inl hb
  rw [U,Y];obtain⟨s',aa,Z,ab,ac⟩:=O h an;refine⟨s',aa,ae.trans Z,λe he=>?_,ac⟩;rcases Array.mem_append.1 he with he | he
  ·simp at he;subst he;exact⟨rfl,Nat.lt_of_lt_of_le au (ae.trans Z).size,.inl (by rw [K];simp)⟩
  ·exact(ab e he).Ag ae (Nat.le_refl _)
 | choose q k O=>
  intro s w Q X h f;simp only [lp] at h;by_cases ak:q.forced
  ·rw [if_pos ak] at h;have U:(Sem.choose q k).run P w=(k 0).run P w:=by simp [Sem.run,ak]
   have Y:(Sem.choose q k).events P w #[]=(k 0).events P w #[]:=by simp only [Sem.events,Sem.runT];rw [if_pos ak]
   rw [U,Y];exact O _ h f
  ·rw [if_neg ak] at h;have U:(Sem.choose q k).run P w=(k (q.cut (w.tape w.drawn q))).run P {w with drawn:=w.drawn+1}:=by simp [Sem.run,ak]
   have Y:(Sem.choose q k).events P w #[]=(k (q.cut (w.tape w.drawn q))).events P {w with drawn:=w.drawn+1} #[]:=by simp only [Sem.events,Sem.runT];rw [if_neg ak]
   rw [U,Y];have ae:Fr s w s {w with drawn:=w.drawn+1}:=⟨Nat.le_refl _,λ_ _ _=>rfl,λ_ h=> .inl h,λ_ _ h=>h,λ_ h=> .inl h,rfl,rfl,rfl⟩;obtain⟨s',aa,Z,ab,ac⟩:=O _ (h.2 (w.tape w.drawn q)) (⟨f.e,f.h,f.d⟩:Fits s {w with drawn:=w.drawn+1});exact⟨s',aa,ae.trans Z,λe he=>(ab e he).Ag ae (Nat.le_refl _),ac⟩
 | sys c k O=>intro s w Q X h f;exact h.elim
 | program k O=>
  intro s w Q X h f;have U:(Sem.program k).run P w=(k P).run P w:=by simp [Sem.run]
  have Y:(Sem.program k).events P w #[]=(k P).events P w #[]:=by simp only [Sem.events,Sem.runT]
  rw [U,Y];exact O _ h f
 | mark m k O=>
  intro s w Q X h f;have U:(Sem.mark m k).run P w=k.run P w:=by simp [Sem.run]
  have Y:(Sem.mark m k).events P w #[]= #[⟨.mark m,false,true⟩]++k.events P w #[]:=by
   rw [← Sem.events_acc];simp only [Sem.events,Sem.runT];rfl
  rw [U,Y];obtain⟨hm,h⟩:=h;obtain⟨s',aa,Z,ab,ac⟩:=O h f;refine⟨s',aa,Z,λe he=>?_,ac⟩;rcases Array.mem_append.1 he with he | he
  ·simp at he;subst he;rcases hm with⟨_,rfl⟩ | ⟨g,rfl⟩ <;> trivial
  ·exact ab e he
 | halt h=>intro s w Q X ao f;exact⟨s,f,.refl _ _,by simp [Sem.events_halt],ao⟩
theorem PW{P:Program}{fn:FuncId}{es:Array Event}(h:∀e∈es,∃f,e.loc= .mark (.extern f)):seen P fn es= #[]:=by
 rw [seen_def];have:∀(l:List Event) (q:Bool),(∀e∈l,∃f,e.loc= .mark (.extern f))->(l.foldl (seenStep λf=>(P.funcs[f]?).any (·.norace)) (q,#[])).2= #[]:=by
  intro l
  induction l with
  | nil=>intro q _;rfl
  | cons e l K=>
   intro q h;obtain⟨f,O⟩:=h e (by simp);rw [List.foldl_cons];have:seenStep (λf=>(P.funcs[f]?).any (·.norace)) (q,#[]) e=((P.funcs[f]?).any (·.norace),#[]):=by simp [seenStep,O]
   rw [this];exact K _ λx U=>h x (by simp [U])
 exact this es.toList _ λe he=>h e (Array.mem_toList_iff.1 he)
def St.quiet:St:=⟨λ_=>none,λ_=>none,true⟩
theorem Ra{P:Program}{α:Type}(x:Sem α):∀{Q:α->St->Prop} {X:Halt->St->Prop},lp P x .quiet Q X->
  ∃es,(∀w,x.events P w #[]=es)/\(∀e∈es,∃f,e.loc= .mark (.extern f))/\((∃a,Q a .quiet/\(∀w,x.run P w= .ok a w))∨(∃a,X a .quiet/\(∀w,x.run P w= .halt a w))):=by
 induction x with
 | pure a=>intro Q X h;exact⟨#[],λw=>by simp [Sem.events_pure'],by simp,.inl ⟨a,h,λw=>rfl⟩⟩
 | load m a k K=>intro Q X h;obtain⟨_,v,Z,_⟩:=h;simp [St.cell?,St.get,St.quiet] at Z
 | store m a v k K=>intro Q X h;obtain⟨_,_,o,aa,_⟩:=h;cases aa
 | new o k K=>intro Q X h;cases h.1
 | shape r k K=>intro Q X h;obtain⟨o,O,_⟩:=h;simp [St.get,St.quiet] at O
 | freeze a n k K=>intro Q X h;exact h.elim
 | frozen a k K=>intro Q X h;obtain⟨o,O,_⟩:=h;simp [St.get,St.quiet] at O
 | getObj r k K=>intro Q X h;obtain⟨o,O,_⟩:=h;simp [St.get,St.quiet] at O
 | setObj r o k K=>intro Q X h;obtain⟨⟨o,O,_⟩,_⟩:=h;cases O
 | choose q k K=>
  intro Q X h;simp only [lp] at h;by_cases U:q.forced
  ·rw [if_pos U] at h;have Y:∀w,(Sem.choose q k).run P w=(k 0).run P w:=λw=>by simp [Sem.run,U]
   have e2:∀w,(Sem.choose q k).events P w #[]=(k 0).events P w #[]:=λw=>by simp only [Sem.events,Sem.runT];rw [if_pos U]
   simpa only [Y,e2] using K _ h
  ·rw [if_neg U] at h;cases h.1
 | sys c k K=>intro Q X h;exact h.elim
 | program k K=>
  intro Q X h;have Y:∀w,(Sem.program k).run P w=(k P).run P w:=λw=>by simp [Sem.run]
  have e2:∀w,(Sem.program k).events P w #[]=(k P).events P w #[]:=λw=>by simp only [Sem.events,Sem.runT]
  simpa only [Y,e2] using K _ h
 | mark m k K=>
  intro Q X h;obtain⟨hm,h⟩:=h;obtain⟨es,O,Z,aa⟩:=K h;have Y:∀w,(Sem.mark m k).run P w=k.run P w:=λw=>by simp [Sem.run]
  have e2:∀w,(Sem.mark m k).events P w #[]= #[⟨.mark m,false,true⟩]++k.events P w #[]:=λw=>by rw [← Sem.events_acc];simp only [Sem.events,Sem.runT];rfl
  refine⟨#[⟨.mark m,false,true⟩]++es,λw=>by rw [e2,O],λe he=>?_,by simpa only [Y] using aa⟩;rcases Array.mem_append.1 he with he | he
  ·simp at he;subst he;rcases hm with⟨U,_⟩ | hm
   ·cases U
   ·obtain⟨f,rfl⟩:=hm;exact⟨f,rfl⟩
  ·exact Z e he
 | halt h=>intro Q X ab;exact⟨#[],λw=>by simp [Sem.events_halt],by simp,.inr ⟨h,ab,λw=>rfl⟩⟩
end Pal
namespace Pal
open Go Go.Conc
def Sn(P:Program)(main:Bool)(g:Goroutine)(s:St)(K:Gs_):Prop:=
 g.status= .running/\(∀w,Fits s w->
  ∃g' s' w' es,stepG P main g w= .go g' w' es/\K g' s'/\Fits s' w'/\Fr s w s' w'/\(∀e∈es,Ev s w w' e))/\
  (s= .quiet->∃g',(∀w,stepG P main g w= .go g' w #[])/\K g' .quiet)
structure B9 (s s₀:St):Prop where
 ext:∀b o,s.E b=some o->s₀.E b=some o
 own:∀b o,s₀.H b=some o->s.H b=some o
 Ex:∀b o,s₀.E b=some o->s.E b=some o∨(s.H b=some o/\s₀.H b=none)
 q:s₀.q=s.q
theorem B9.refl(s:St):B9 s s:=⟨λ_ _ h=>h,λ_ _ h=>h,λ_ _ h=> .inl h,rfl⟩
theorem B9.fits{s s₀:St}(g:B9 s s₀){w:World}(f:Fits s w):Fits s₀ w where
 e b o h:=by
  rcases g.Ex b o h with x | x
  ·exact f.e _ _ x
  ·exact f.h _ _ x.1
 h b o h:=f.h _ _ (g.own _ _ h)
 d b h:=by
  cases K:s₀.E b with
  | none=>exact absurd K h
  | some o=>
   rcases g.Ex b o K with x | x
   ·cases O:s₀.H b with
    | none=>rfl
    | some y=>have:=g.own _ _ O;rw [f.d b (by rw [x];simp)] at this;cases this
   ·exact x.2
theorem HR{α:Type}{x:Option α}(h:x≠none):∃a,x=some a:=by cases x <;> simp at h;exact⟨_,rfl⟩
theorem B9.fr{s s₀ s':St}{w w':World}(g:B9 s s₀)(f:Fr s₀ w s' w'):Fr s w s' w' where
 size:=f.size
 keep b hb O:=f.keep b hb (by
  cases h:s₀.H b with
  | none=>rfl
  | some o=>rw [g.own _ _ h] at O;cases O)
 own b hb:=(f.own b hb).imp (λh=>by obtain⟨o,K⟩:=HR h;rw [g.own _ _ K];simp) id
 ext b o h:=f.ext _ _ (g.ext _ _ h)
 Ex b hb:=by
  rcases f.Ex b hb with h | h | h
  ·obtain⟨o,K⟩:=HR h;rcases g.Ex _ _ K with x | x
   ·exact .inl (by rw [x];simp)
   ·exact .inr (.inl (by rw [x.1];simp))
  ·obtain⟨o,K⟩:=HR h;exact .inr (.inl (by rw [g.own _ _ K];simp))
  ·exact .inr (.inr h)
 tape:=f.tape
 os:=f.os
 output:=f.output
theorem B9.Gy{s s₀:St}{w w':World}{b:Nat}{wr:Bool}(g:B9 s s₀)(t:Gy s₀ w w' b wr):Gy s w w' b wr:=by
 refine⟨t.1,?_⟩;rcases t.2 with h | h | ⟨h,hw⟩
 ·obtain⟨o,K⟩:=HR h;exact .inl (by rw [g.own _ _ K];simp)
 ·exact .inr (.inl h)
 ·obtain⟨o,K⟩:=HR h;rcases g.Ex _ _ K with x | x
  ·exact .inr (.inr ⟨by rw [x];simp,hw⟩)
  ·exact .inl (by rw [x.1];simp)
theorem B9.ev{s s₀:St}{w w':World}{e:Event}(g:B9 s s₀)(t:Ev s₀ w w' e):Ev s w w' e:=by
 unfold Ev at t ⊢;split <;> rename_i he <;> simp only [he] at t
 ·exact⟨t.1,g.Gy t.2⟩
 ·exact⟨t.1,g.Gy t.2⟩
 ·trivial
 ·trivial
theorem B9.quiet{s₀:St}(g:B9 .quiet s₀):s₀= .quiet:=by
 obtain⟨E,H,q⟩:=s₀;have K:E=λ_=>none:=by
  funext b;cases h:E b with
  | none=>rfl
  | some o=>rcases g.Ex b o h with x | ⟨x,_⟩ <;> cases x
 have O:H=λ_=>none:=by
  funext b;cases h:H b with
  | none=>rfl
  | some o=>cases g.own b o h
 have U:q=true:=g.q;subst K O U;rfl
inductive Rk:Type where
 | leaf:Rk
 | node (f:World->Rk):Rk
def Rk.sub(a b:Rk):Prop:=∃f w,b= .node f/\a=f w
theorem Rk.wf:WellFounded Rk.sub:=⟨λr=>by
 induction r with
 | leaf=>exact⟨_,λa ⟨f,w,h,_⟩=>by cases h⟩
 | node f K=>exact⟨_,λa ⟨g,w,h,e⟩=>by cases h;subst e;exact K w⟩⟩
def Jr(P:Program)(main:Bool)(Q:Gs_):Rk->Gs_
 | .leaf,g,s=>Q g s
 | .node f,g,s=>Q g s∨(g.status= .running/\∀w,Fits s w->
  ∃g' s' w' es,stepG P main g w= .go g' w' es/\Jr P main Q (f w) g' s'/\Fits s' w'/\Fr s w s' w'/\(∀e∈es,Ev s w w' e)/\(s= .quiet->s'= .quiet/\w'=w/\es= #[]))
structure Judge (P:Program) where
 main:Bool
 ok:(Gs_)->Gs_
 stop:∀{Q g s},Q g s->ok Q g s
 step:∀{Q g s},Sn P main g s (ok Q)->ok Q g s
 trans:∀{Q R g s},ok Q g s->(∀g' s',Q g' s'->ok R g' s')->ok R g s
 ghost:∀{Q g s s₀},B9 s s₀->ok Q g s₀->ok Q g s
def JQ(Q:Gs_)(g:Goroutine)(s:St):Prop:=∃s₀,B9 s s₀/\Q g s₀
theorem B9.trans{a b c:St}(h:B9 a b)(k:B9 b c):B9 a c where
 ext x o y:=k.ext _ _ (h.ext _ _ y)
 own x o y:=h.own _ _ (k.own _ _ y)
 Ex x o y:=by
  rcases k.Ex x o y with z | z
  ·rcases h.Ex x o z with u | u
   ·exact .inl u
   ·refine .inr ⟨u.1,?_⟩;cases K:c.H x with
    | none=>rfl
    | some v=>have:=k.own _ _ K;rw [u.2] at this;cases this
  ·exact .inr ⟨h.own _ _ z.1,z.2⟩
 q:=k.q.trans h.q
def AR(P:Program)(main:Bool):Judge P where
 main:=main
 ok Q g s:=∃r,Jr P main (JQ Q) r g s
 stop h:=⟨.leaf,_,.refl _,h⟩
 step {Q g s} h:=by
  obtain⟨U,h,hu⟩:=h;have ac:∀w,∃r:Rk,Fits s w->∃g' s' w' es,stepG P main g w= .go g' w' es/\Jr P main (JQ Q) r g' s'/\Fits s' w'/\Fr s w s' w'/\(∀e∈es,Ev s w w' e)/\(s= .quiet->s'= .quiet/\w'=w/\es= #[]):=by
   intro w;by_cases f:Fits s w
   ·by_cases e:s= .quiet
    ·obtain⟨g',K,r,O⟩:=hu e;exact⟨r,λ_=>⟨g',.quiet,w,#[],K w,O,e▸f,e▸ .refl _ _,by simp,λ_=>⟨rfl,rfl,rfl⟩⟩⟩
    ·obtain⟨g',s',w',es,K,⟨r,O⟩,aa,ae,ag⟩:=h w f;exact⟨r,λ_=>⟨g',s',w',es,K,O,aa,ae,ag,λx=>absurd x e⟩⟩
   ·exact⟨.leaf,λx=>absurd x f⟩
  exact⟨.node λw=>Classical.choose (ac w),.inr ⟨U,λw f=>Classical.choose_spec (ac w) f⟩⟩
 trans {Q R g s} h k:=by
  obtain⟨r,h⟩:=h;have ai:∀(r:Rk) {g:Goroutine} {s s₀:St},B9 s s₀->Jr P main (JQ R) r g s₀->Jr P main (JQ R) r g s:=by
   intro r g s s₀ Y Z;cases r with
   | leaf=>obtain⟨ab,K,O⟩:=Z;exact⟨ab,Y.trans K,O⟩
   | node f=>
    rcases Z with⟨ab,K,O⟩ | ⟨U,Z⟩
    ·exact .inl ⟨ab,Y.trans K,O⟩
    ·exact .inr ⟨U,λw f=>let ⟨g',s',w',es,K,O,aa,ae,ag,ah⟩:=Z w (Y.fits f);⟨g',s',w',es,K,O,aa,Y.fr ae,λe he=>Y.ev (ag e he),λe=>ah (by subst e;exact Y.quiet)⟩⟩
  induction r generalizing g s with
  | leaf=>
   obtain⟨s₀,K,O⟩:=h;obtain⟨r,U⟩:=k _ _ O;exact⟨r,ai r K U⟩
  | node f ak=>
   rcases h with⟨s₀,K,O⟩ | ⟨U,h⟩
   ·obtain⟨r,U⟩:=k _ _ O;exact⟨r,ai r K U⟩
   ·have ac:∀w,∃r:Rk,Fits s w->∃g' s' w' es,stepG P main g w= .go g' w' es/\Jr P main (JQ R) r g' s'/\Fits s' w'/\Fr s w s' w'/\(∀e∈es,Ev s w w' e)/\(s= .quiet->s'= .quiet/\w'=w/\es= #[]):=by
     intro w;by_cases aj:Fits s w
     ·obtain⟨g',s',w',es,K,O,aa⟩:=h w aj;obtain⟨r,U⟩:=ak w O;exact⟨r,λ_=>⟨g',s',w',es,K,U,aa⟩⟩
     ·exact⟨.leaf,λx=>absurd x aj⟩
    exact⟨.node λw=>Classical.choose (ac w),.inr ⟨U,λw f=>Classical.choose_spec (ac w) f⟩⟩
 ghost {Q g s s₀} Y h:=by
  obtain⟨r,Z⟩:=h;refine⟨r,?_⟩;cases r with
  | leaf=>obtain⟨ab,K,O⟩:=Z;exact⟨ab,Y.trans K,O⟩
  | node f=>
   rcases Z with⟨ab,K,O⟩ | ⟨U,Z⟩
   ·exact .inl ⟨ab,Y.trans K,O⟩
   ·exact .inr ⟨U,λw f=>let ⟨g',s',w',es,K,O,aa,ae,ag,ah⟩:=Z w (Y.fits f);⟨g',s',w',es,K,O,aa,Y.fr ae,λe he=>Y.ev (ag e he),λe=>ah (by subst e;exact Y.quiet)⟩⟩
def Lv(P:Program)(Q:Gs_):Nat->Goroutine->Prop
 | 0,g=>Q g .quiet
 | n+1,g=>Q g .quiet∨(g.status= .running/\∃g',(∀w,stepG P false g w= .go g' w #[])/\Lv P Q n g')
def HV(P:Program):Judge P where
 main:=false
 ok Q g s:=s= .quiet->∃n,Lv P Q n g
 stop h e:=⟨0,by subst e;exact h⟩
 step {Q g s} h e:=by
  obtain⟨g',K,O⟩:=h.2.2 e;obtain⟨n,U⟩:=O rfl;exact⟨n+1,.inr ⟨h.1,g',K,U⟩⟩
 trans {Q R g s} h k e:=by
  obtain⟨n,U⟩:=h e;have:∀n g,Lv P Q n g->∃m,Lv P R m g:=by
   intro n
   induction n with
   | zero=>intro g h;exact k _ _ h rfl
   | succ n Y=>
    intro g h;rcases h with h | ⟨Z,g',K,O⟩
    ·exact k _ _ h rfl
    ·obtain⟨m,hm⟩:=Y g' O;exact⟨m+1,.inr ⟨Z,g',K,hm⟩⟩
  exact this n g U
 ghost {Q g s s₀} aa h e:=by subst e;exact h aa.quiet
end Pal
namespace Pal
open Go Go.Conc
def fr(b:Frame)(T:Av_)(ds:Ld_)(todo:Li_):Frame:={b with tmps:=T,todo:=todo,defers:=ds,mode:= .run}
def Ed(b:Frame)(T:Av_)(ds:Ld_)(todo:Li_):Frame:={b with tmps:=T,todo:=todo,defers:=ds,mode:= .returning}
def Bs(T:Av_):Operand->Value
 | .tmp t=>T.getD t undef
 | .const v=>v
 | .global g=> .pointer (some ⟨g,0,none⟩)
 | .func f=> .func (.func f) #[] #[]
abbrev Env:=List (Nat×Value)
def look:Env->Nat->Option Value
 | [],_=>none
 | (t,v)::L,u=>if t=u then some v else look L u
def ev(L:Env):Operand->Option Value
 | .tmp t=>look L t
 | .const v=>some v
 | .global g=>some (.pointer (some ⟨g,0,none⟩))
 | .func f=>some (.func (.func f) #[] #[])
structure Has (n:Nat) (L:Env) (T:Av_):Prop where
 size:T.size=n
 at_:∀t v,look L t=some v->T.getD t undef=v
theorem Has.ev{n:Nat}{L:Env}{T:Av_}(h:Has n L T){x:Operand}{v:Value}(e:ev L x=some v):Bs T x=v:=by
 cases x with
 | tmp t=>exact h.at_ t v e
 | const u=>cases e;rfl
 | global g=>cases e;rfl
 | func f=>cases e;rfl
def Cx(T:Av_):Option Tmp->Value->Av_
 | some d,v=>T.setIfInBounds d v
 | none,_=>T
def Au(L:Env):Option Tmp->Value->Env
 | some d,v=>(d,v)::L
 | none,_=>L
def Bg(n:Nat):Option Tmp->Bool
 | some d=>d<n
 | none=>true
theorem VE(T:Av_)(d:Nat)(v:Value)(h:d<T.size)(t:Nat):(T.setIfInBounds d v).getD t undef=if d=t then v else T.getD t undef:=by
 by_cases e:d=t
 ·subst e;simp [Array.getD_eq_getD_getElem?,h]
 ·simp [Array.getD_eq_getD_getElem?,e]
theorem Has.put{n:Nat}{L:Env}{T:Av_}(h:Has n L T){d:Option Tmp}(hd:Bg n d=true)(v:Value):Has n (Au L d v) (Cx T d v):=by
 cases d with
 | none=>exact h
 | some d=>
  have K:d<T.size:=by rw [h.size];simpa [Bg] using hd
  refine⟨by simp [Cx,h.size],λt u hu=>?_⟩;simp only [Cx,VE T d v K];simp only [Au,look] at hu;split at hu
  ·rename_i e;rw [if_pos e];exact Option.some.inj hu
  ·rename_i e;rw [if_neg e];exact h.at_ t u hu
def Sub:Env->Env->Prop
 | [],_=>True
 | (t,v)::L',L=>look L t=some v/\Sub L' L
theorem Sub.look{L:Env}:∀{L':Env},Sub L' L->∀t v,look L' t=some v->Pal.look L t=some v
 | [],_,t,v,e=>by simp [Pal.look] at e
 | (u,w)::L',h,t,v,e=>by
  simp only [Pal.look] at e
  split at e
  ·rename_i K;subst K;cases e;exact h.1
  ·exact Sub.look h.2 t v e
theorem Has.sub{n:Nat}{L L':Env}{T:Av_}(h:Has n L T)(s:Sub L' L):Has n L' T:=⟨h.size,λt v e=>h.at_ t v (s.look t v e)⟩
section
variable {P:Program}(J:Judge P)(Q:Gs_)
def JL(b:Frame)(n:Nat)(L:Env)(ds:Ld_)(todo:Li_)(cs:Lf_)(s:St):Prop:=
 ∀T,Has n L T->J.ok Q (G (fr b T ds todo) cs) s
end
section
variable {P:Program}{J:Judge P}{Q:Gs_}{b:Frame}{n:Nat}{L L':Env}{ds:Ld_}{k:Li_}{cs:Lf_}{s s':St}
theorem Judge.CY{g g':Goroutine}(K:g.status= .running)(h:∀w,stepG P J.main g w= .go g' w)(k:J.ok Q g' s):J.ok Q g s:=
 J.step ⟨K,λw f=>⟨g',s,w,#[],h w,k,f,.refl _ _,by simp⟩,λe=>⟨g',h,e▸k⟩⟩
theorem EK(h:Sub L' L)(k':JL J Q b n L' ds k cs s):JL J Q b n L ds k cs s:=λT K=>k' T (K.sub h)
theorem JL.ghost(h:B9 s s')(k':JL J Q b n L ds k cs s'):JL J Q b n L ds k cs s:=λT K=>J.ghost h (k' T K)
theorem JL.skip(h:JL J Q b n L ds k cs s):JL J Q b n L ds (.code .skip::k) cs s:=λT K=>Judge.CY rfl (λw=>by simp [G,stepG,stepG.exec,fr]) (h T K)
theorem JL.label{l:Nat}(h:JL J Q b n L ds k cs s):JL J Q b n L ds (.code (.label l)::k) cs s:=λT K=>Judge.CY rfl (λw=>by simp [G,stepG,stepG.exec,fr]) (h T K)
theorem Mo{i:Nat}(h:JL J Q b n L ds k cs s):JL J Q b n L ds (.inBlock i::k) cs s:=λT K=>Judge.CY rfl (λw=>by simp [G,stepG,stepG.exec,fr]) (h T K)
theorem T3{c:Code}(h:JL J Q b n L ds k cs s):JL J Q b n L ds (.inScope c::k) cs s:=λT K=>Judge.CY rfl (λw=>by simp [G,stepG,stepG.exec,fr]) (h T K)
theorem JL.seq{x y:Code}(h:JL J Q b n L ds (.code x:: .code y::k) cs s):JL J Q b n L ds (.code (.seq x y)::k) cs s:=λT K=>Judge.CY rfl (λw=>by simp [G,stepG,stepG.exec,fr]) (h T K)
theorem JL.block{i:Nat}{c:Code}(h:JL J Q b n L ds (.code c:: .inBlock i::k) cs s):JL J Q b n L ds (.code (.block i c)::k) cs s:=λT K=>Judge.CY rfl (λw=>by simp [G,stepG,stepG.exec,fr]) (h T K)
theorem JL.scope{c:Code}(h:JL J Q b n L ds (.code c:: .inScope c::k) cs s):JL J Q b n L ds (.code (.scope c)::k) cs s:=λT K=>Judge.CY rfl (λw=>by simp [G,stepG,stepG.exec,fr]) (h T K)
theorem Ip{c:Code}(h:JL J Q b n L ds (.code c:: .inLoop c::k) cs s):JL J Q b n L ds (.code (.loop c)::k) cs s:=λT K=>Judge.CY rfl (λw=>by simp [G,stepG,stepG.exec,fr]) (h T K)
theorem JL.again{c:Code}(h:JL J Q b n L ds (.code c:: .inLoop c::k) cs s):JL J Q b n L ds (.inLoop c::k) cs s:=λT K=>Judge.CY rfl (λw=>by simp [G,stepG,stepG.exec,fr]) (h T K)
theorem JL.exit{i:Nat}{k':Li_}(K:exitTo i k=some k')(h:JL J Q b n L ds k' cs s):JL J Q b n L ds (.code (.exit i)::k) cs s:=λT O=>Judge.CY rfl (λw=>by simp [G,stepG,stepG.exec,fr,K]) (h T O)
theorem RQ(T:Av_)(todo:Li_)(x:Operand):(fr b T ds todo).eval x=Bs T x:=by cases x <;> rfl
theorem QW(T:Av_)(todo:Li_):(fr b T ds todo).eval=Bs T:=funext (RQ T todo)
theorem JL.cond{c:Operand}{x y:Code}{t:Bool}(U:ev L c=some (.bool t))(h:JL J Q b n L ds (.code (if t then x else y)::k) cs s):JL J Q b n L ds (.code (.cond c x y)::k) cs s:=λT O=>
 Judge.CY rfl (λw=>by
  have K:=RQ (b:=b) (ds:=ds) T (.code (.cond c x y)::k) c
  rw [O.ev U] at K
  simp only [fr] at K
  simp [G,stepG,stepG.exec,fr,K]) (h T O)
theorem UY{c:Operand}{x y:Code}(K:ev L c=some (.bool true))(h:JL J Q b n L ds (.code x::k) cs s):JL J Q b n L ds (.code (.cond c x y)::k) cs s:=JL.cond K h
theorem UX{c:Operand}{x y:Code}(K:ev L c=some (.bool false))(h:JL J Q b n L ds (.code y::k) cs s):JL J Q b n L ds (.code (.cond c x y)::k) cs s:=JL.cond K h
theorem Oi{c:Operand}{x y:Code}{t:Bool}(K:ev L c=some (.bool t))(O:t=true->JL J Q b n L ds (.code x::k) cs s)(U:t=false->JL J Q b n L ds (.code y::k) cs s):JL J Q b n L ds (.code (.cond c x y)::k) cs s:=by
 cases t
 ·exact JL.cond K (U rfl)
 ·exact JL.cond K (O rfl)
theorem F1{c:Operand}{x y:Code}{p:Prop} [Decidable p] (K:ev L c=some (.bool (decide p)))(O:p->JL J Q b n L ds (.code x::k) cs s)(U:¬p->JL J Q b n L ds (.code y::k) cs s):JL J Q b n L ds (.code (.cond c x y)::k) cs s:=
 Oi K (λh=>O (of_decide_eq_true h)) (λh=>U (of_decide_eq_false h))
theorem JL.loop{α:Type}{c:Code}(I:α->Prop)(O:α->Nat)(U:α->Env)(Y:α->St)(Z:α)(aa:I Z)(ab:L=U Z)(ac:s=Y Z)
  (round:∀a,I a->(∀K,I K->O K<O a->JL J Q b n (U K) ds (.inLoop c::k) cs (Y K))->JL J Q b n (U a) ds (.code c:: .inLoop c::k) cs (Y a)):
  JL J Q b n L ds (.code (.loop c)::k) cs s:=by
 refine Ip ?_;subst ab ac;have key:∀m a,O a=m->I a->JL J Q b n (U a) ds (.code c:: .inLoop c::k) cs (Y a):=by
  intro m
  induction m using Nat.strongRecOn with
  | _ m ae=>intro a hm ag;exact round a ag λK ah ai=>JL.again (ae (O K) (hm▸ai) K rfl ah)
 exact key _ Z rfl aa
theorem JL.region{id:Nat}{ops:Ao_}(h:JL J Q b n L ds (.inRegion ops (List.range ops.size)::k) cs s):JL J Q b n L ds (.code (.region id ops false)::k) cs s:=λT K=>Judge.CY rfl (λw=>by simp [G,stepG,stepG.exec,fr]) (h T K)
theorem JL.done{ops:Ao_}(h:JL J Q b n L ds k cs s):JL J Q b n L ds (.inRegion ops []::k) cs s:=λT K=>Judge.CY rfl (λw=>by simp [G,stepG,stepG.exec,fr]) (h T K)
theorem RN{id:Nat}{ops:Ao_}(K:s.q=false)(hm:P.follows .mixedOrders=true)(h:∀t,JL J Q b n L ds (.inRegion ops (Region.linearise .any ops t)::k) cs s):JL J Q b n L ds (.code (.region id ops true)::k) cs s:=λT O=>by
 refine J.step ⟨rfl,λw f=>⟨_,s,{w with drawn:=w.drawn+1},#[],?_,h (w.tape w.drawn (.order b.fn id)) T O,⟨f.e,f.h,f.d⟩,⟨Nat.le_refl _,λ_ _ _=>rfl,λ_ h=> .inl h,λ_ _ h=>h,λ_ h=> .inl h,rfl,rfl,rfl⟩,by simp⟩,λe=>by subst e;cases K⟩
 simp [G,stepG,stepG.exec,fr,choose,Sem.run,Question.forced,Question.cut,Region.schedule,hm]
theorem Ge(T:Av_)(ops:Ao_)(i:Nat)(rest:List Nat)(v:Value)(o:Oper)(K:ops[i]? =some o):
  (fr b T ds (.inRegion ops (i::rest)::k)).finish v=fr b (Cx T o.dst v) ds (.inRegion ops rest::k):=by
 cases hd:o.dst <;> simp [Frame.finish,fr,K,hd,Cx]
theorem stepG_op{main:Bool}{T:Av_}{ops:Ao_}{i:Nat}{rest:List Nat}{o:Oper}{w:World}(K:ops[i]? =some o)(hw:Region.wanted o (yielded ops T)=true):
  stepG P main (G (fr b T ds (.inRegion ops (i::rest)::k)) cs) w=
   match b.roundOf,o.op with
   | some l,.defer c=>stepG.apply P true (fr b T ds (.inRegion ops (i::rest)::k)) cs none (do Instr.deferInRound l (← resolve (Bs T) c o.type);pure .skip) w
   | _,_=>stepG.apply P true (fr b T ds (.inRegion ops (i::rest)::k)) cs none (execOp (Bs T) o) w:=by
 have he:=QW (b:=b) (ds:=ds) T (.inRegion ops (i::rest)::k);simp only [fr] at he;simp only [G,stepG,stepG.exec,fr,K,Option.map_some,Option.getD_some,hw,if_true,stepG.oper,Frame.oper?,he]
 rfl
theorem FT(T:Av_)(todo:Li_):(fr b T ds todo).fn=b.fn:=rfl
theorem HX(T:Av_)(todo:Li_):(fr b T ds todo).todo=todo:=rfl
def upon(J:Judge P)(Q:Gs_)(b:Frame)(T:Av_)(ds:Ld_)(ops:Ao_)(i:Nat)(rest:List Nat)(k:Li_)(cs:Lf_)(dst:Option Tmp):Next->St->Prop
 | .value v,s=>J.ok Q (G (fr b (Cx T dst v) ds (.inRegion ops rest::k)) cs) s
 | .skip,s=>J.ok Q (G (fr b (Cx T dst undef) ds (.inRegion ops rest::k)) cs) s
 | .defer d,s=>J.ok Q (G (fr b (Cx T dst undef) (d::ds) (.inRegion ops rest::k)) cs) s
 | .enter f args,s=>J.ok Q (G (Frame.enter P f args .normal) (fr b T ds (.inRegion ops (i::rest)::k)::cs)) s
 | .round l f tmps assign body,s=>J.ok Q (G (Frame.round l f tmps assign body .normal) (fr b T ds (.inRegion ops (i::rest)::k)::cs)) s
 | _,_=>False
def K0(J:Judge P)(Q:Gs_)(b:Frame)(T:Av_)(ds:Ld_)(ops:Ao_)(i:Nat)(rest:List Nat)(k:Li_)(cs:Lf_):Halt->St->Prop
 | .panic v,s=>J.ok Q (G ((fr b T ds (.inRegion ops (i::rest)::k)).raise [{v,recovered:=false}]) cs) s
 | _,_=>False
theorem Ox{s:St}{w w':World}{fn:FuncId}{es:Array Event}(h:∀e∈es,Ev s w w' e):∀e∈seen P fn es,Ev s w w' e:=λe he=>h e (mem_seen he)
theorem Judge.oper{T:Av_}{ops:Ao_}{i:Nat}{rest:List Nat}{o:Oper}(ac:ops[i]? =some o)(hw:Region.wanted o (yielded ops T)=true)(ak:b.kind≠ .early)
  (hd:b.roundOf=none∨∀c,o.op≠ .defer c)
  (h:lp P (execOp (Bs T) o) s (upon J Q b T ds ops i rest k cs o.dst) (K0 J Q b T ds ops i rest k cs)):
  J.ok Q (G (fr b T ds (.inRegion ops (i::rest)::k)) cs) s:=by
 have U:((fr b T ds (.inRegion ops (i::rest)::k)).kind==CallKind.early)=false:=by simpa [fr] using ak
 have ai:∀w,stepG P J.main (G (fr b T ds (.inRegion ops (i::rest)::k)) cs) w=stepG.apply P true (fr b T ds (.inRegion ops (i::rest)::k)) cs none (execOp (Bs T) o) w:=by
  intro w;rw [stepG_op ac hw];split
  ·rename_i l c aj e2;rcases hd with hd | hd
   ·rw [hd] at aj;cases aj
   ·exact absurd e2 (hd c)
  ·rfl
 refine J.step ⟨rfl,λw f=>?_,λe=>?_⟩
 rotate_left
 ·subst e;simp only [ai];have ae:=λv=>Ge (b:=b) (ds:=ds) (k:=k) T ops i rest v o ac;obtain⟨es,he,Y,h⟩:=Ra _ h;have ab:seen P b.fn es= #[]:=PW Y;rcases h with⟨ag,K,O⟩ | ⟨x,K,O⟩
  ·cases ag with
   | value v=>exact⟨_,λw=>by simp [stepG.apply,O,U,GStep.after,G,ae,FT,he,ab],K⟩
   | skip=>exact⟨_,λw=>by simp [stepG.apply,O,U,GStep.after,G,ae,FT,he,ab],K⟩
   | enter g args=>exact⟨_,λw=>by simp [stepG.apply,O,U,GStep.after,G,FT,HX,he,ab],K⟩
   | round l g tm as al=>exact⟨_,λw=>by simp [stepG.apply,O,U,GStep.after,G,FT,HX,he,ab],K⟩
   | defer d=>
    have ah:=Ge (b:=b) (ds:=d::ds) (k:=k) T ops i rest undef o ac;exact⟨_,λw=>by rw [← ah];simp [stepG.apply,O,U,GStep.after,G,FT,HX,he,ab];rfl,K⟩
   | _=>exact K.elim
  ·cases x with
   | panic v=>exact⟨_,λw=>by simp [stepG.apply,O,U,GStep.after,G,FT,HX,he,ab],K⟩
   | _=>exact K.elim
 obtain⟨s',Z,aa,am,K⟩:=My _ h f;rw [ai];have Y:=Ox (P:=P) (fn:=b.fn) am;have ae:=λv=>Ge (b:=b) (ds:=ds) (k:=k) T ops i rest v o ac;cases O:(execOp (Bs T) o).run P w with
 | ok ag w'=>
  rw [O] at Z aa K Y;simp only [Ko] at Z aa Y;cases ag with
  | value v=>exact⟨_,s',w',seen P b.fn ((execOp (Bs T) o).events P w #[])++ #[],by simp [stepG.apply,O,U,GStep.after,G,ae,FT],K,Z,aa,by simpa using Y⟩
  | skip=>exact⟨_,s',w',seen P b.fn ((execOp (Bs T) o).events P w #[])++ #[],by simp [stepG.apply,O,U,GStep.after,G,ae,FT],K,Z,aa,by simpa using Y⟩
  | enter g args=>exact⟨_,s',w',seen P b.fn ((execOp (Bs T) o).events P w #[])++ #[],by simp [stepG.apply,O,U,GStep.after,G,FT,HX],K,Z,aa,by simpa using Y⟩
  | round l g tm as al=>exact⟨_,s',w',seen P b.fn ((execOp (Bs T) o).events P w #[])++ #[],by simp [stepG.apply,O,U,GStep.after,G,FT,HX],K,Z,aa,by simpa using Y⟩
  | defer d=>
   have ah:=Ge (b:=b) (ds:=d::ds) (k:=k) T ops i rest undef o ac;exact⟨_,s',w',seen P b.fn ((execOp (Bs T) o).events P w #[])++ #[],by
    rw [← ah];simp [stepG.apply,O,U,GStep.after,G,FT,HX];rfl,K,Z,aa,by simpa using Y⟩
  | _=>exact K.elim
 | halt x w'=>
  rw [O] at Z aa K Y;simp only [Ko] at Z aa Y;cases x with
  | panic v=>exact⟨_,s',w',seen P b.fn ((execOp (Bs T) o).events P w #[])++ #[],by simp [stepG.apply,O,U,GStep.after,G,FT,HX],K,Z,aa,by simpa using Y⟩
  | _=>exact K.elim
theorem Judge.unwanted{T:Av_}{ops:Ao_}{i:Nat}{rest:List Nat}{o:Oper}(K:ops[i]? =some o)(hw:Region.wanted o (yielded ops T)=false)
  (h:J.ok Q (G (fr b (Cx T o.dst undef) ds (.inRegion ops rest::k)) cs) s):J.ok Q (G (fr b T ds (.inRegion ops (i::rest)::k)) cs) s:=by
 refine Judge.CY rfl (λw=>?_) h;have O:=Ge (b:=b) (ds:=ds) (k:=k) T ops i rest undef o K;rw [← O];simp [G,stepG,stepG.exec,fr,K,hw]
end
end Pal
namespace Pal
open Go Go.Conc
def Yl(P:Program)(o:Oper)(ρ:Operand->Value)(s:St)(v:Value):Prop:=lp P (execOp ρ o) s (λK s'=>K= .value v/\s'=s) (λ_ _=>False)
def EG(L:Env)(ρ:Operand->Value):Prop:=∀x v,ev L x=some v->ρ x=v
def AM(L:Env)(ops:Ao_)(o:Oper):Option Bool:=
 match o.guard with
 | none=>some true
 | some (j,K)=>match(ops[j]?).bind (·.dst) with
  | some d=>match look L d with
   | some (.bool b)=>some (b==K)
   | some (.tuple _)=>some false
   | _=>none
  | none=>none
section
variable {P:Program}{J:Judge P}{Q:Gs_}{b:Frame}{n:Nat}{L L':Env}{ds:Ld_}{k:Li_}{cs:Lf_}{s s':St}
theorem Has.FU{T:Av_}(h:Has n L T):EG L (Bs T):=λ_ _ e=>h.ev e
theorem getD_some{T:Av_}{d:Nat}{c:Bool}(h:T.getD d undef= .bool c):T[d]? =some (.bool c):=by
 rw [Array.getD_eq_getD_getElem?] at h;cases K:T[d]? with
 | none=>rw [K] at h;simp [undef] at h
 | some v=>rw [K] at h;simp at h;rw [h]
theorem BX{T:Av_}{ops:Ao_}{o:Oper}{c:Bool}(h:Has n L T)(hw:AM L ops o=some c):Region.wanted o (yielded ops T)=c:=by
 unfold AM at hw;unfold Region.wanted;cases K:o.guard with
 | none=>rw [K] at hw;simpa using hw
 | some p=>
  obtain⟨j,Y⟩:=p;rw [K] at hw;simp only at hw ⊢;cases hd:(ops[j]?).bind (·.dst) with
  | none=>rw [hd] at hw;simp at hw
  | some d=>
   rw [hd] at hw;simp only at hw;cases O:look L d with
   | none=>rw [O] at hw;simp at hw
   | some v=>
    rw [O] at hw;cases v with
    | bool x=>
     simp only [Option.some.injEq] at hw;have:=getD_some (h.at_ d _ O);simp only [yielded,hd,Option.bind_some,this];simp [← hw]
    | tuple c=>
     simp only [Option.some.injEq] at hw;have K:=h.at_ d _ O;simp only [yielded,hd,Option.bind_some];cases U:T[d]? with
     | none=>simp [← hw]
     | some u=>
      have:u= .tuple c:=by rw [Array.getD_eq_getD_getElem?,U] at K;exact K
      subst this;simp [← hw]
    | _=>simp at hw
def DG:Op->Bool | .defer _=>true | _=>false
def BF(b:Frame)(n:Nat)(o:Oper):Bool:=(b.kind != .early)&&(Bg n o.dst&& !DG o.op)
theorem Yl.out{P:Program}{o:Oper}{ρ:Operand->Value}{s:St}{v:Value}(h:Yl P o ρ s v):Pal.lp P (execOp ρ o) s (λK s'=>K= .value v/\s'=s) (λ_ _=>False):=by unfold Yl at h;exact h
theorem A0{ops:Ao_}{i:Nat}{rest:List Nat}{o:Oper}{v:Value}(U:ops[i]? =some o)(hw:AM L ops o=some true)(K:BF b n o=true)
  (h:∀ρ,EG L ρ->Yl P o ρ s v) (Y:JL J Q b n (Au L o.dst v) ds (.inRegion ops rest::k) cs s):
  JL J Q b n L ds (.inRegion ops (i::rest)::k) cs s:=λT O=>by
 simp only [BF,Bool.and_eq_true] at K
 obtain⟨K,Z,hd⟩:=K
 refine Judge.oper U (BX O hw) (by simpa using K) (.inr λc aa=>by rw [aa] at hd;simp [DG] at hd) (Ec _ (h _ O.FU).out ?_ ?_)
 ·rintro ac s' ⟨rfl,rfl⟩
  exact Y _ (O.put Z v)
 ·intro _ _ ab;exact ab.elim
theorem H5{ops:Ao_}{i:Nat}{rest:List Nat}{o:Oper}(O:ops[i]? =some o)(hw:AM L ops o=some false)(U:Bg n o.dst=true)
  (Y:JL J Q b n (Au L o.dst undef) ds (.inRegion ops rest::k) cs s):
  JL J Q b n L ds (.inRegion ops (i::rest)::k) cs s:=λ_ K=>
 Judge.unwanted O (BX K hw) (Y _ (K.put U undef))
theorem JL.op{ops:Ao_}{i:Nat}{rest:List Nat}{o:Oper}(aa:ops[i]? =some o)(hw:AM L ops o=some true)(K:BF b n o=true)
  (h:∀ρ,EG L ρ->lp P (execOp ρ o) s (λU s'=>match U with
   | .value v=>JL J Q b n (Au L o.dst v) ds (.inRegion ops rest::k) cs s'
   | .skip=>JL J Q b n (Au L o.dst undef) ds (.inRegion ops rest::k) cs s'
   | _=>False) (λ_ _=>False)):
  JL J Q b n L ds (.inRegion ops (i::rest)::k) cs s:=λT O=>by
 simp only [BF,Bool.and_eq_true] at K
 obtain⟨K,Z,hd⟩:=K
 refine Judge.oper aa (BX O hw) (by simpa using K) (.inr λc ab=>by rw [ab] at hd;simp [DG] at hd) (Ec _ (h _ O.FU) ?_ ?_)
 ·intro U s' Y
  cases U with
  | value v=>exact Y _ (O.put Z v)
  | skip=>exact Y _ (O.put Z undef)
  | _=>exact Y.elim
 ·intro _ _ ac;exact ac.elim
end
section
variable {P:Program}{ρ:Operand->Value}{s:St}{x y z:Operand}{d:Option Tmp}{t u ty:TypeId}{p:String}{af:Ae_}{g:On_}{v:Value}{kd kd':IntKind}{m m':Int}
theorem Yl.move(K:ρ x=v):Yl P ⟨d,.move x,ty,p,af,g⟩ ρ s v:=by simp [Yl,execOp,lp,pure,K]
theorem Yl.assign(K:ρ x=v):Yl P ⟨d,.assign x,ty,p,af,g⟩ ρ s v:=by simp [Yl,execOp,lp,pure,K]
theorem Lm(K:ρ z= .bool true)(O:ρ x=v):Yl P ⟨d,.pick z x y,ty,p,af,g⟩ ρ s v:=by simp [Yl,execOp,lp,pure,bind,Sem.bind,asBool,K,O]
theorem Vi(K:ρ z= .bool false)(O:ρ y=v):Yl P ⟨d,.pick z x y,ty,p,af,g⟩ ρ s v:=by simp [Yl,execOp,lp,pure,bind,Sem.bind,asBool,K,O]
theorem Yl.lss(K:ρ x= .int kd m)(O:ρ y= .int kd m'):Yl P ⟨d,.binOp .lss t x y u,ty,p,af,g⟩ ρ s (.bool (decide (m<m'))):=by
 simp [Yl,execOp,lp,pure,bind,Sem.bind,K,O,eqGuard,Go.binOp,Op.intCmp]
theorem Yl.leq(K:ρ x= .int kd m)(O:ρ y= .int kd m'):Yl P ⟨d,.binOp .leq t x y u,ty,p,af,g⟩ ρ s (.bool (decide (m<=m'))):=by
 simp [Yl,execOp,lp,pure,bind,Sem.bind,K,O,eqGuard,Go.binOp,Op.intCmp]
theorem Yl.gtr(K:ρ x= .int kd m)(O:ρ y= .int kd m'):Yl P ⟨d,.binOp .gtr t x y u,ty,p,af,g⟩ ρ s (.bool (decide (m'<m))):=by
 simp [Yl,execOp,lp,pure,bind,Sem.bind,K,O,eqGuard,Go.binOp,Op.intCmp]
theorem Yl.geq(K:ρ x= .int kd m)(O:ρ y= .int kd m'):Yl P ⟨d,.binOp .geq t x y u,ty,p,af,g⟩ ρ s (.bool (decide (m'<=m))):=by
 simp [Yl,execOp,lp,pure,bind,Sem.bind,K,O,eqGuard,Go.binOp,Op.intCmp]
theorem Yl.eql(K:ρ x= .int kd m)(O:ρ y= .int kd m'):Yl P ⟨d,.binOp .eql t x y u,ty,p,af,g⟩ ρ s (.bool (decide (m=m'))):=by
 simp [Yl,execOp,lp,pure,bind,Sem.bind,K,O,eqGuard,Go.binOp,Op.intCmp];rfl
theorem Yl.neq(K:ρ x= .int kd m)(O:ρ y= .int kd m'):Yl P ⟨d,.binOp .neq t x y u,ty,p,af,g⟩ ρ s (.bool (!decide (m=m'))):=by
 simp [Yl,execOp,lp,pure,bind,Sem.bind,K,O,eqGuard,Go.binOp,Op.intCmp];rfl
theorem Yl.add(K:ρ x= .int kd m)(O:ρ y= .int kd m'):Yl P ⟨d,.binOp .add t x y u,ty,p,af,g⟩ ρ s (.int kd (kd.wrap (m+m'))):=by
 simp [Yl,execOp,lp,pure,bind,Sem.bind,K,O,eqGuard,Go.binOp,Op.intArith]
theorem Yl.sub(K:ρ x= .int kd m)(O:ρ y= .int kd m'):Yl P ⟨d,.binOp .sub t x y u,ty,p,af,g⟩ ρ s (.int kd (kd.wrap (m - m'))):=by
 simp [Yl,execOp,lp,pure,bind,Sem.bind,K,O,eqGuard,Go.binOp,Op.intArith]
theorem Yl.mul(K:ρ x= .int kd m)(O:ρ y= .int kd m'):Yl P ⟨d,.binOp .mul t x y u,ty,p,af,g⟩ ρ s (.int kd (kd.wrap (m*m'))):=by
 simp [Yl,execOp,lp,pure,bind,Sem.bind,K,O,eqGuard,Go.binOp,Op.intArith]
theorem Jg{a:Int}(h: -9223372036854775808<=a/\a<=9223372036854775807):IntKind.i64.wrap a=a:=by
 simp only [IntKind.wrap,IntKind.bits,IntKind.signed];simp;split <;> omega
theorem W0(K:ρ x= .int .i64 m)(O:ρ y= .int .i64 m')(hb: -9223372036854775808<=m+m'/\m+m'<=9223372036854775807):Yl P ⟨d,.binOp .add t x y u,ty,p,af,g⟩ ρ s (.int .i64 (m+m')):=by
 have:=Yl.add (P:=P) (s:=s) (d:=d) (t:=t) (u:=u) (ty:=ty) (p:=p) (af:=af) (g:=g) K O;rwa [Jg hb] at this
theorem W7(K:ρ x= .int .i64 m)(O:ρ y= .int .i64 m')(hb: -9223372036854775808<=m - m'/\m - m'<=9223372036854775807):Yl P ⟨d,.binOp .sub t x y u,ty,p,af,g⟩ ρ s (.int .i64 (m - m')):=by
 have:=Yl.sub (P:=P) (s:=s) (d:=d) (t:=t) (u:=u) (ty:=ty) (p:=p) (af:=af) (g:=g) K O;rwa [Jg hb] at this
theorem WJ(K:ρ x= .int .i64 m)(O:ρ y= .int .i64 m')(hb: -9223372036854775808<=m*m'/\m*m'<=9223372036854775807):Yl P ⟨d,.binOp .mul t x y u,ty,p,af,g⟩ ρ s (.int .i64 (m*m')):=by
 have:=Yl.mul (P:=P) (s:=s) (d:=d) (t:=t) (u:=u) (ty:=ty) (p:=p) (af:=af) (g:=g) K O;rwa [Jg hb] at this
theorem Yl.rem(K:ρ x= .int kd m)(O:ρ y= .int kd m')(U:m'≠0):Yl P ⟨d,.binOp .rem t x y u,ty,p,af,g⟩ ρ s (.int kd (m.tmod m')):=by
 simp [Yl,execOp,lp,pure,bind,Sem.bind,K,O,eqGuard,Go.binOp,Op.intDiv,U]
theorem Yl.quo(K:ρ x= .int kd m)(O:ρ y= .int kd m')(U:m'≠0):Yl P ⟨d,.binOp .quo t x y u,ty,p,af,g⟩ ρ s (.int kd (kd.wrap (m.tdiv m'))):=by
 simp [Yl,execOp,lp,pure,bind,Sem.bind,K,O,eqGuard,Go.binOp,Op.intDiv,U]
theorem Yl.and(K:ρ x= .int kd m)(O:ρ y= .int kd m'):Yl P ⟨d,.binOp .and t x y u,ty,p,af,g⟩ ρ s (.int kd (kd.wrap (BitVec.ofInt kd.bits m&&& BitVec.ofInt kd.bits m').toNat)):=by
 simp [Yl,execOp,lp,pure,bind,Sem.bind,K,O,eqGuard,Go.binOp,Op.intBits]
theorem Yl.or(K:ρ x= .int kd m)(O:ρ y= .int kd m'):Yl P ⟨d,.binOp .or t x y u,ty,p,af,g⟩ ρ s (.int kd (kd.wrap (BitVec.ofInt kd.bits m ||| BitVec.ofInt kd.bits m').toNat)):=by
 simp [Yl,execOp,lp,pure,bind,Sem.bind,K,O,eqGuard,Go.binOp,Op.intBits]
theorem Yl.xor(K:ρ x= .int kd m)(O:ρ y= .int kd m'):Yl P ⟨d,.binOp .xor t x y u,ty,p,af,g⟩ ρ s (.int kd (kd.wrap (BitVec.ofInt kd.bits m ^^^ BitVec.ofInt kd.bits m').toNat)):=by
 simp [Yl,execOp,lp,pure,bind,Sem.bind,K,O,eqGuard,Go.binOp,Op.intBits]
theorem Yl.shl(K:ρ x= .int kd m)(O:ρ y= .int kd' m')(U:0<=m'):Yl P ⟨d,.binOp .shl t x y u,ty,p,af,g⟩ ρ s (.int kd (kd.wrap (m*2 ^ (min m'.toNat kd.bits)))):=by
 have:¬m'<0:=by omega
 simp [Yl,execOp,lp,pure,bind,Sem.bind,K,O,eqGuard,Go.binOp,Op.shift,this]
theorem Yl.shr(K:ρ x= .int kd m)(O:ρ y= .int kd' m')(U:0<=m'):Yl P ⟨d,.binOp .shr t x y u,ty,p,af,g⟩ ρ s (.int kd (m.fdiv (2 ^ (min m'.toNat kd.bits)))):=by
 have:¬m'<0:=by omega
 simp [Yl,execOp,lp,pure,bind,Sem.bind,K,O,eqGuard,Go.binOp,Op.shift,this]
theorem Yl.not{c:Bool}(K:ρ x= .bool c):Yl P ⟨d,.unOp .not t x,ty,p,af,g⟩ ρ s (.bool (!c)):=by
 simp [Yl,execOp,lp,pure,bind,Sem.bind,K,Op.unary]
theorem Xm(K:ρ x= .int .i64 m)(hb: -9223372036854775808<= -m/\ -m<=9223372036854775807):Yl P ⟨d,.unOp .neg t x,ty,p,af,g⟩ ρ s (.int .i64 (-m)):=by
 simp [Yl,execOp,lp,pure,bind,Sem.bind,K,Op.unary,Op.intArith,Jg hb]
theorem EU(K:P.underlying t=some (.int kd'))(hu:P.underlying u=some (.int kd))(O:ρ x= .int kd' m):Yl P ⟨d,.convert t u x,ty,p,af,g⟩ ρ s (.int kd (kd.wrap m)):=by
 simp [Yl,execOp,lp,pure,bind,Sem.bind,O,Go.convert,underlying,program,K,hu,Conv.intToInt]
theorem Yl.extract{vs:Av_}{i:Nat}(K:ρ x= .tuple vs)(hi:vs[i]? =some v):Yl P ⟨d,.extract x i,ty,p,af,g⟩ ρ s v:=by
 simp [Yl,execOp,lp,pure,bind,Sem.bind,K,Instr.extract,hi]
theorem Yl.nilCheck{a:Addr}(K:ρ x= .pointer (some a)):Yl P ⟨d,.nilCheck x,ty,p,af,g⟩ ρ s (.pointer (some a)):=by
 simp [Yl,execOp,lp,pure,K]
theorem Yl.len{a:Option Addr}{e:TypeId}{l c:Nat}{ats:Array TypeId}(K:ats[0]? =some t)(O:P.underlying t=some (.slice e))(U:ρ x= .slice a l c):
  Yl P ⟨d,.call ⟨.builtin .len,#[x],ats⟩,ty,p,af,g⟩ ρ s (.int .i64 l):=by
 simp [Yl,execOp,lp,pure,bind,Sem.bind,U,resolve,invoke,builtin,Builtin.len_,K,underlying,program,O,goInt]
theorem N5{dsc:TypeDesc}(K:P.underlying t=some dsc)(O:∀ms,dsc≠ .interface ms)(U:ρ x=v):Yl P ⟨d,.makeInterface t x,ty,p,af,g⟩ ρ s (.iface t v):=by
 have:lp P (Instr.makeInterface t v) s (λr s'=>r= .iface t v/\s'=s) (λ_ _=>False):=by
  unfold Instr.makeInterface;simp only [lp,bind,Sem.bind,underlying,program,K];cases dsc <;> first | exact⟨rfl,rfl⟩ | exact absurd rfl (O _)
 simp only [Yl,execOp,U];exact As _ _ (Ec _ this (λr s' ⟨Y,Z⟩=>⟨by rw [Y],Z⟩) (λ_ _ h=>h))
theorem Ji{fn:Fn}{a c:Array Operand}{va K:Av_}(O:a.map ρ=va)(U:c.map ρ=K):Yl P ⟨d,.makeFunc fn a c,ty,p,af,g⟩ ρ s (.func fn va K):=by
 simp [Yl,execOp,lp,pure,bind,Sem.bind,Instr.makeFunc,O,U]
end
attribute [irreducible] Yl
end Pal
namespace Pal
open Go Go.Conc
def Le(E E':LH):Prop:=∀b o,E b=some o->E' b=some o
theorem Le.refl(E:LH):Le E E:=λ_ _ h=>h
theorem Le.trans{E E' K:LH}(h:Le E E')(k:Le E' K):Le E K:=λb o x=>k b o (h b o x)
theorem Aw{E:LH}:Le E E:=Le.refl E
theorem Le.Ad{a b c:LH}(h:Le a b)(k:Le b c):Le a c:=h.trans k
def Bf:List (Nat×Obj)->LH->LH
 | [],H=>H
 | (b,o)::B,H=>λx=>if x=b then some o else Bf B H x
def mk(E H:LH)(B:List (Nat×Obj)):St:=⟨E,Bf B H,false⟩
def Nd(E H:LH):List (Nat×Obj)->Prop
 | []=>True
 | (b,_)::B=>E b=none/\H b=none/\(∀p∈B,p.1≠b)/\Nd E H B
theorem Qh{H:LH}{b:Nat}:∀{B:List (Nat×Obj)},H b=none->(∀p∈B,p.1≠b)->Bf B H b=none
 | [],h,_=>h
 | (c,o)::B,h,hb=>by
  have K:b≠c:=λe=>hb (c,o) (by simp) e.symm
  simp only [Bf,if_neg K]
  exact Qh h λp O=>hb p (List.mem_cons_of_mem _ O)
theorem HP{H:LH}{b:Nat}:∀{B:List (Nat×Obj)},Bf B H b=none->H b=none/\∀p∈B,p.1≠b
 | [],h=>⟨h,by simp⟩
 | (c,o)::B,h=>by
  simp only [Bf] at h
  split at h
  ·cases h
  ·rename_i O;obtain⟨U,Y⟩:=HP h;refine⟨U,λp K=>?_⟩;rcases List.mem_cons.1 K with rfl | K
   ·exact λe=>O e.symm
   ·exact Y p K
theorem P1{H:LH}{x:Nat}{o:Obj}{r:Nat}:∀{B:List (Nat×Obj)},(∀p∈B,p.1≠r)->Bf (B++ [(r,o)]) H x=if x=r then some o else Bf B H x
 | [],_=>rfl
 | (c,u)::B,h=>by
  simp only [List.cons_append,Bf]
  by_cases e:x=c
  ·subst e
   have:x≠r:=λe=>h (x,u) (by simp) e;simp [this]
  ·simp only [if_neg e];exact P1 λp K=>h p (List.mem_cons_of_mem _ K)
theorem Nd.append{E H:LH}{r:Nat}{o:Obj}(O:E r=none)(U:H r=none):∀{B:List (Nat×Obj)},(∀p∈B,p.1≠r)->Nd E H B->Nd E H (B++ [(r,o)])
 | [],_,_=>⟨O,U,by simp,trivial⟩
 | (c,u)::B,h,Y=>by
  obtain⟨Z,aa,ab,ac⟩:=Y
  refine⟨Z,aa,λp K=>?_,Nd.append O U (λp K=>h p (List.mem_cons_of_mem _ K)) ac⟩
  rcases List.mem_append.1 K with K | K
  ·exact ab p K
  ·simp at K;subst K;exact λe=>h (c,u) (by simp) e.symm
theorem IV{E H:LH}{b:Nat}{o:Obj}:∀{B:List (Nat×Obj)} {i:Nat},Nd E H B->B[i]? =some (b,o)->Bf B H b=some o
 | [],_,_,h=>by simp at h
 | (c,u)::B,0,_,h=>by simp at h;obtain⟨rfl,rfl⟩:=h;simp [Bf]
 | (c,u)::B,i+1,K,h=>by
  simp at h
  have O:b≠c:=K.2.2.1 (b,o) (List.mem_of_getElem? h)
  simp only [Bf,if_neg O]
  exact IV K.2.2.2 h
theorem Qz{E H:LH}{b:Nat}{o o':Obj}:∀{B:List (Nat×Obj)} {i:Nat},Nd E H B->B[i]? =some (b,o)->Bf (B.set i (b,o')) H=λx=>if x=b then some o' else Bf B H x
 | [],_,_,h=>by simp at h
 | (c,u)::B,0,_,h=>by
  simp at h;obtain⟨rfl,rfl⟩:=h
  funext x
  simp only [List.set_cons_zero,Bf]
  split <;> rfl
 | (c,u)::B,i+1,K,h=>by
  simp at h
  have O:b≠c:=K.2.2.1 (b,o) (List.mem_of_getElem? h)
  funext x
  simp only [List.set_cons_succ,Bf]
  rw [Qz K.2.2.2 h]
  by_cases e:x=c
  ·subst e;simp [Ne.symm O]
  ·simp [e]
theorem Nd.set{E H:LH}{b:Nat}{o o':Obj}:∀{B:List (Nat×Obj)} {i:Nat},Nd E H B->B[i]? =some (b,o)->Nd E H (B.set i (b,o'))
 | [],_,_,h=>by simp at h
 | (c,u)::B,0,K,h=>by simp at h;obtain⟨rfl,rfl⟩:=h;exact K
 | (c,u)::B,i+1,K,h=>by
  simp at h
  refine⟨K.1,K.2.1,λp O=>?_,K.2.2.2.set h⟩
  have hm:=List.mem_or_eq_of_mem_set O
  rcases hm with hm | rfl
  ·exact K.2.2.1 p hm
  ·exact K.2.2.1 (b,o) (List.mem_of_getElem? h)
theorem Nd.Rg{E H:LH}{b:Nat}{o:Obj}:∀{B:List (Nat×Obj)} {i:Nat},Nd E H B->B[i]? =some (b,o)->E b=none
 | [],_,_,h=>by simp at h
 | (c,u)::B,0,K,h=>by simp at h;obtain⟨rfl,rfl⟩:=h;exact K.1
 | (c,u)::B,i+1,K,h=>by simp at h;exact Nd.Rg K.2.2.2 h
theorem N3{E H:LH}{B:List (Nat×Obj)}{i b:Nat}{o:Obj}(K:Nd E H B)(h:B[i]? =some (b,o)):(mk E H B).get b=some o:=by
 unfold St.get mk;simp only [K.Rg h,IV K h]
theorem T6{E H:LH}{B:List (Nat×Obj)}{b:Nat}{o:Obj}(h:E b=some o):(mk E H B).get b=some o:=by
 unfold St.get mk;simp only [h]
theorem QV{E H:LH}{B:List (Nat×Obj)}{i b off:Nat}{c:Av_}{e:TypeId}{f:Nat×Nat}{v:Value}(K:Nd E H B)(h:B[i]? =some (b,.cells c e f))(O:c[off]? =some v):(mk E H B).cell? ⟨b,off,none⟩=some v:=by
 unfold St.cell?;rw [N3 K h];exact O
theorem Ux{E H:LH}{B:List (Nat×Obj)}{b off:Nat}{c:Av_}{e:TypeId}{f:Nat×Nat}{v:Value}(h:E b=some (.cells c e f))(K:c[off]? =some v):(mk E H B).cell? ⟨b,off,none⟩=some v:=by
 unfold St.cell?;rw [T6 h];exact K
section
variable {P:Program}{J:Judge P}{Q:Gs_}{b:Frame}{n:Nat}{L L':Env}{ds:Ld_}{k:Li_}{cs:Lf_}{E H:LH}{B B':List (Nat×Obj)}
theorem J6{r:Nat}(O:(mk E H B).E r=none)(U:(mk E H B).H r=none)(o:Obj)(Y:Nd E H B):Nd E H (B++ [(r,o)])/\(mk E H B).upd r o=mk E H (B++ [(r,o)]):=by
 obtain⟨Z,K⟩:=HP U;refine⟨Nd.append O Z K Y,?_⟩;unfold St.upd mk;congr 1;funext x;exact(P1 K).symm
theorem Yp{i bk:Nat}{o o':Obj}(K:Nd E H B)(h:B[i]? =some (bk,o)):(mk E H B).upd bk o'=mk E H (B.set i (bk,o')):=by
 unfold St.upd mk;congr 1;exact(Qz K h).symm
theorem JL.drop(B':List (Nat×Obj))(h:∀p∈B',∃i:Nat,B[i]? =some p)(U:Nd E H B)(k':JL J Q b n L ds k cs (mk E H B')):JL J Q b n L ds k cs (mk E H B):=
 JL.ghost (s':=mk E H B') ⟨λ_ _ h=>h,λx o O=>by
  show Bf B H x=some o
  have key:∀{B':List (Nat×Obj)},(∀p∈B',∃i:Nat,B[i]? =some p)->Bf B' H x=some o->Bf B H x=some o:=by
   intro B'
   induction B' with
   | nil=>
    intro _ O
    have ac:∀p∈B,p.1≠x:=by
     intro p K e
     have:∀{B:List (Nat×Obj)},Nd E H B->p∈B->H p.1=none:=by
      intro B U K
      induction B with
      | nil=>simp at K
      | cons q B Y=>
       rcases List.mem_cons.1 K with rfl | K
       ·exact U.2.1
       ·exact Y U.2.2.2 K
     have aa:=this U K
     rw [e] at aa
     have ab:H x=some o:=O
     rw [aa] at ab;cases ab
    have:∀{B:List (Nat×Obj)},(∀p∈B,p.1≠x)->Bf B H x=H x:=by
     intro B Z
     induction B with
     | nil=>rfl
     | cons q B Y=>
      have ae:x≠q.1:=λe=>Z q (by simp) e.symm
      obtain⟨c,u⟩:=q
      simp only [Bf,if_neg ae]
      exact Y λp K=>Z p (List.mem_cons_of_mem _ K)
    rw [this ac];exact O
   | cons q B' Y=>
    intro Z O
    obtain⟨c,u⟩:=q
    simp only [Bf] at O
    split at O
    ·rename_i e;subst e;cases O
     obtain⟨i,hi⟩:=Z (x,o) (by simp)
     exact IV U hi
    ·exact Y (λp K=>Z p (List.mem_cons_of_mem _ K)) O
  exact key h O,λ_ _ h=> .inl h,rfl⟩ k'
theorem Lf{x:Nat}:∀{B:List (Nat×Obj)} {i:Nat} {bk:Nat} {o u:Obj},Nd E H B->B[i]? =some (bk,o)->Bf (B.eraseIdx i) H x=some u->x≠bk/\Bf B H x=some u
 | [],_,_,_,_,_,h,_=>by simp at h
 | (c,v)::B,0,bk,o,u,O,h,K=>by
  simp at h;obtain⟨rfl,rfl⟩:=h
  simp only [List.eraseIdx_cons_zero] at K
  have U:x≠c:=by
   intro e;subst e;rw [Qh O.2.1 O.2.2.1] at K;cases K
  exact⟨U,by simp only [Bf,if_neg U];exact K⟩
 | (c,v)::B,i+1,bk,o,u,O,h,K=>by
  simp at h;simp only [List.eraseIdx_cons_succ,Bf] at K ⊢;split at K
  ·rename_i e;subst e;rw [if_pos rfl];exact⟨λe=>O.2.2.1 (bk,o) (List.mem_of_getElem? h) e.symm,K⟩
  ·rename_i e;rw [if_neg e];exact Lf O.2.2.2 h K
theorem JL.freeze(i:Nat){bk:Nat}{o:Obj}(K:Nd E H B)(h:B[i]? =some (bk,o))
  (k':∀E',Le E E'->E' bk=some o->Nd E' H (B.eraseIdx i)->JL J Q b n L ds k cs (mk E' H (B.eraseIdx i))):JL J Q b n L ds k cs (mk E H B):=by
 have ag:=List.mem_of_getElem? h;have ah:E bk=none/\H bk=none:=by
  have:∀{B:List (Nat×Obj)},Nd E H B->(bk,o)∈B->E bk=none/\H bk=none:=by
   intro B K O
   induction B with
   | nil=>simp at O
   | cons q B Y=>
    rcases List.mem_cons.1 O with rfl | O
    ·exact⟨K.1,K.2.1⟩
    ·exact Y K.2.2.2 O
  exact this K ag
 let E':LH:=λx=>if x=bk then some o else E x
 have ab:E' bk=some o:=by simp [E']
 have hle:Le E E':=λx u U=>by
  have:x≠bk:=λe=>by subst e;rw [ah.1] at U;cases U
  simp [E',this,U]
 have ai:Nd E' H (B.eraseIdx i):=by
  have:∀{B:List (Nat×Obj)} {i:Nat},Nd E H B->B[i]? =some (bk,o)->Nd E' H (B.eraseIdx i)/\∀p∈B.eraseIdx i,p.1≠bk:=by
   intro B
   induction B with
   | nil=>intro i _ h;simp at h
   | cons q B Y=>
    obtain⟨c,v⟩:=q;intro i K h;have up:∀{B:List (Nat×Obj)},Nd E H B->(∀p∈B,p.1≠bk)->Nd E' H B:=by
     intro B K ac
     induction B with
     | nil=>trivial
     | cons q B aj=>exact⟨by simpa [E',ac q (by simp)] using K.1,K.2.1,K.2.2.1,aj K.2.2.2 λp O=>ac p (List.mem_cons_of_mem _ O)⟩
    cases i with
    | zero=>
     simp at h;obtain⟨rfl,rfl⟩:=h;exact⟨up K.2.2.2 K.2.2.1,K.2.2.1⟩
    | succ i=>
     simp at h;obtain⟨Z,aa⟩:=Y K.2.2.2 h;have ae:c≠bk:=λe=>K.2.2.1 (bk,o) (List.mem_of_getElem? h) e.symm;refine⟨⟨by simpa [E',ae] using K.1,K.2.1,λp O=>K.2.2.1 p (List.mem_of_mem_eraseIdx O),Z⟩,λp O=>?_⟩;rcases List.mem_cons.1 O with rfl | O
     ·exact ae
     ·exact aa p O
  exact(this K h).1
 refine JL.ghost (s':=mk E' H (B.eraseIdx i)) ⟨λx u U=>hle x u U,λx u U=>(Lf K h U).2,λx u U=>?_,rfl⟩ (k' E' hle ab ai);by_cases e:x=bk
 ·subst e;right;have:u=o:=by have:E' x=some u:=U;rw [ab] at this;exact(Option.some.inj this).symm
  subst this;refine⟨IV K h,?_⟩;cases ak:(mk E' H (B.eraseIdx i)).H x with
  | none=>rfl
  | some y=>exact absurd rfl (Lf K h ak).1
 ·left;have Z:E' x=some u:=U;have aa:E' x=E x:=by simp [E',e]
  show E x=some u;rw [← aa];exact Z
def Fn(P:Program)(f:FuncId)(args:Av_)(s:St)(R:Value->St->Prop):Prop:=
 ∀(J:Judge P) (Q:Gs_) (c:Frame) (cs:Lf_),(∀v s',R v s'->J.ok Q (G (c.finish v) cs) s')->J.ok Q (G (Frame.enter P f args .normal) (c::cs)) s
def De(P:Program)(f:FuncId):Bool:=match P.funcs[f]? with | some fn=> !(fn.name== "runtime.NumGoroutine")&&fn.body.isSome | none=>false
def evs(L:Env):List Operand->Option (Lv_)
 | []=>some []
 | x::xs=>match ev L x,evs L xs with | some v,some vs=>some (v::vs) | _,_=>none
theorem Gf{L:Env}{ρ:Operand->Value}(h:EG L ρ):∀{xs:List Operand} {vs:Lv_},evs L xs=some vs->xs.map ρ=vs
 | [],vs,e=>by simp [evs] at e;subst e;rfl
 | x::xs,vs,e=>by
  simp only [evs] at e
  split at e
  ·rename_i v ws K O
   cases e;rw [List.map_cons,h x v K,Gf h O]
  ·cases e
theorem Io{f:FuncId}{args:Av_}{s:St}{Q:Next->St->Prop}{X:Halt->St->Prop}(K:De P f=true)(h:Q (.enter f args) s):lp P (callFunc f args) s Q X:=by
 unfold De at K;unfold callFunc;simp only [bind,Sem.bind,program,lp];cases O:P.funcs[f]? with
 | none=>rw [O] at K;cases K
 | some fn=>
  rw [O] at K;simp only [Bool.and_eq_true,Bool.not_eq_true'] at K;have hb:fn.body.isNone=false:=by cases U:fn.body <;> simp_all
  simp only [K.1,hb,Bool.false_eq_true,if_false];exact h
def Bx(P:Program)(f:FuncId)(L:Env)(n:Nat)(s:St)(v:Value):Prop:=∃fn,P.funcs[f]? =some fn/\∀T,Has n L T->lp P (results fn T) s (λu s'=>u=v/\s'=s) (λ_ _=>False)
theorem Judge.leave{T:Av_}{todo:Li_}{c:Frame}{s:St}{v:Value}{fn:Func}(Y:b.kind= .normal)(Z:P.funcs[b.fn]? =some fn)(U:lp P (results fn T) s (λu s'=>u=v/\s'=s) (λ_ _=>False))
  (h:J.ok Q (G (c.finish v) cs) s):J.ok Q (G (Ed b T [] todo) (c::cs)) s:=by
 refine J.step ⟨rfl,λw f=>?_,λe=>?_⟩
 rotate_left
 ·subst e;obtain⟨es,he,ae,U⟩:=Ra _ U;have ag:seen P b.fn es= #[]:=PW ae;rcases U with⟨u,⟨rfl,_⟩,O⟩ | ⟨x,K,_⟩
  ·exact⟨_,λw=>by simp [G,stepG,unwind,Ed,Z,O,doReturn,Y,GStep.after,he,ag],h⟩
  ·exact K.elim
 obtain⟨s',aa,ab,ac,K⟩:=My _ U f;cases O:(results fn T).run P w with
 | halt x w'=>rw [O] at K;exact K.elim
 | ok u w'=>
  rw [O] at aa ab ac K;obtain⟨rfl,rfl⟩:=K;exact⟨_,s',w',seen P b.fn ((results fn T).events P w #[])++ #[],by simp [G,stepG,unwind,Ed,Z,O,doReturn,Y,GStep.after],h,aa,ab,by simp only [Array.append_empty];exact Ox ac⟩
theorem JL.ret{s:St}{c:Frame}{v:Value}(O:b.kind= .normal)(U:b.roundOf=none)(K:Bx P b.fn L n s v)(h:J.ok Q (G (c.finish v) cs) s):JL J Q b n L [] (.code .ret::k) (c::cs) s:=λT Y=>by
 obtain⟨fn,Z,K⟩:=K
 refine Judge.CY (g':=G (Ed b T [] (.code .ret::k)) (c::cs)) rfl (λw=>by simp [G,stepG,stepG.exec,fr,Ed,U]) ?_
 exact Judge.leave O Z (K T Y) h
theorem JL.fin{s:St}{c:Frame}{v:Value}(O:b.kind= .normal)(U:b.roundOf=none)(K:Bx P b.fn L n s v)(h:J.ok Q (G (c.finish v) cs) s):JL J Q b n L [] [] (c::cs) s:=λT Y=>by
 obtain⟨fn,Z,K⟩:=K
 refine Judge.CY (g':=G (Ed b T [] []) (c::cs)) rfl (λw=>by simp [G,stepG,stepG.exec,fr,Ed,U]) ?_
 exact Judge.leave O Z (K T Y) h
theorem Bx.one{f:FuncId}{fn:Func}{s:St}{t:Tmp}{v:Value}(K:P.funcs[f]? =some fn)(O:fn.results= #[.tmp t])(h:look L t=some v):Bx P f L n s v:=
 ⟨fn,K,λT U=>by
  have e:results fn T=Sem.pure v:=by
   have:=U.at_ t v h
   simp only [results,O,Array.mapM_eq_mapM_toList]
   show Sem.pure (T.getD t undef)=_
   rw [this]
  rw [e];exact⟨rfl,rfl⟩⟩
theorem Bx.none{f:FuncId}{fn:Func}{s:St}(K:P.funcs[f]? =some fn)(O:fn.results= #[]):Bx P f L n s (.tuple #[]):=
 ⟨fn,K,λT U=>by
  have e:results fn T=Sem.pure (.tuple #[]):=by
   simp only [results,O,Array.mapM_eq_mapM_toList]
   rfl
  rw [e];exact⟨rfl,rfl⟩⟩
def F2:Nat->Lv_->Env
 | _,[]=> []
 | i,v::vs=>(i,v)::F2 (i+1) vs
theorem Jf{i:Nat}{vs:Lv_}{t:Nat}{v:Value}(h:look (F2 i vs) t=some v):i<=t/\vs[t - i]? =some v:=by
 induction vs generalizing i with
 | nil=>simp [F2,look] at h
 | cons u vs K=>
  simp only [F2,look] at h;split at h
  ·rename_i e;subst e;cases h;simp
  ·rename_i U;obtain⟨Y,O⟩:=K h;refine⟨by omega,?_⟩;have:t - i=(t - (i+1))+1:=by omega
   rw [this];simpa using O
end
end Pal
namespace Pal
open Go Go.Conc
def Bl(P:Program)(t:TypeId):Option Nat:=(P.info? t).map (·.size)
def C9(P:Program)(t:TypeId):Option Bool:=match P.underlying t with | some (.struct _)=>some true | some (.array _ _)=>some true | some _=>some false | none=>none
def zeroOf(P:Program)(t:TypeId):Option Value:=(P.info? t).bind (·.zero)
section
variable {P:Program}{s:St}{t:TypeId}
theorem ED{K:Nat}{Q:Nat->St->Prop}{X:Halt->St->Prop}(h:Bl P t=some K)(k:Q K s):lp P (Go.sizeOf t) s Q X:=by
 unfold Bl at h;simp only [Go.sizeOf,typeInfo,bind,Sem.bind,program,lp];cases hi:P.info? t with
 | none=>rw [hi] at h;cases h
 | some i=>rw [hi] at h;simp at h;subst h;exact k
theorem Hm{z:Value}{Q:Value->St->Prop}{X:Halt->St->Prop}(h:zeroOf P t=some z)(k:Q z s):lp P (zeroValue t) s Q X:=by
 unfold zeroOf at h;simp only [zeroValue,typeInfo,bind,Sem.bind,program,lp];cases hi:P.info? t with
 | none=>rw [hi] at h;cases h
 | some i=>
  rw [hi] at h;simp at h;show lp P (match i.zero with | some v=>pure v | none=>unsupported _) s Q X
  rw [h];exact k
theorem Mx{c:Bool}{Q:Bool->St->Prop}{X:Halt->St->Prop}(h:C9 P t=some c)(k:Q c s):lp P (isAgg t) s Q X:=by
 unfold C9 at h;simp only [isAgg,underlying,bind,Sem.bind,program,lp];cases hu:P.underlying t with
 | none=>rw [hu] at h;cases h
 | some u=>
  rw [hu] at h;cases u <;> simp at h <;> subst h <;> exact k
theorem Ce{u:TypeDesc}{Q:TypeDesc->St->Prop}{X:Halt->St->Prop}(h:P.underlying t=some u)(k:Q u s):lp P (underlying t) s Q X:=by
 simp only [underlying,bind,Sem.bind,program,lp,h];exact k
theorem Ry{a:Addr}{v:Value}{Q:Value->St->Prop}{X:Halt->St->Prop}(h:s.cell? a=some v)(k:Q v s):lp P (load a) s Q X:=⟨rfl,v,h,k⟩
theorem PR{a:Addr}{Q:Av_->St->Prop}{X:Halt->St->Prop}:∀(vs:Lv_) (i:Nat) (acc:Av_),(∀j v,vs[j]? =some v->s.cell? (a.add (i+j))=some v)->Q (acc++vs.toArray) s->lp P (loadCellsFrom a i vs.length acc) s Q X
 | [],i,acc,_,k=>by simpa [loadCellsFrom,lp,pure] using k
 | v::vs,i,acc,h,k=>by
  simp only [List.length_cons,loadCellsFrom]
  refine As _ _ (Ry (h 0 v rfl) ?_)
  refine PR vs (i+1) (acc.push v) (λj u K=>?_) (by simpa using k)
  have:=h (j+1) u (by simpa using K)
  rwa [show i+1+j=i+(j+1) from by omega]
theorem PX{a:Addr}{vs:Lv_}{m:Nat}{Q:Av_->St->Prop}{X:Halt->St->Prop}(hm:m=vs.length)(h:∀j v,vs[j]? =some v->s.cell? (a.add j)=some v)(k:Q vs.toArray s):lp P (loadCells a m) s Q X:=by
 subst hm;exact PR vs 0 #[] (λj v K=>by simpa using h j v K) (by simpa using k)
theorem P4{a:Addr}{v:Value}{Q:Value->St->Prop}{X:Halt->St->Prop}(K:C9 P t=some false)(h:s.cell? a=some v)(k:Q v s):lp P (loadVar t a) s Q X:=by
 unfold loadVar;refine As _ _ (Mx K ?_);exact Ry h k
theorem P5{a:Addr}{vs:Lv_}{Q:Value->St->Prop}{X:Halt->St->Prop}(K:C9 P t=some true)(O:Bl P t=some vs.length)(h:∀j v,vs[j]? =some v->s.cell? (a.add j)=some v)(k:Q (.agg vs.toArray) s):lp P (loadVar t a) s Q X:=by
 unfold loadVar;refine As _ _ (Mx K ?_);show lp P (do let r ← loadCells a (← Go.sizeOf t);pure (Value.agg r)) s Q X
 refine As (x:=Go.sizeOf t) _ (ED O ?_);refine As _ _ (PX rfl h ?_);exact k
end
section
variable {P:Program}{ρ:Operand->Value}{s:St}{x y z:Operand}{d:Option Tmp}{t u ty e:TypeId}{p:String}{af:Ae_}{g:On_}{v:Value}{kd kd':IntKind}{m m':Int}
theorem Ft{o:Oper}{sm:Sem Value}(K:execOp ρ o=(do pure (Next.value (← sm))))(h:lp P sm s (λr s'=>r=v/\s'=s) (λ_ _=>False)):Yl P o ρ s v:=by
 unfold Yl;rw [K];exact As _ _ (Ec _ h (λr s' ⟨O,U⟩=>⟨by rw [O],U⟩) (λ_ _ h=>h))
theorem Yl.load{a:Addr}(K:C9 P t=some false)(O:ρ x= .pointer (some a))(h:s.cell? a=some v):Yl P ⟨d,.load t x,ty,p,af,g⟩ ρ s v:=
 Ft (sm:=Instr.loadAt t (ρ x)) rfl (by rw [O];exact P4 K h ⟨rfl,rfl⟩)
theorem IS{a:Addr}{vs:Lv_}(K:C9 P t=some true)(O:Bl P t=some vs.length)(U:ρ x= .pointer (some a))(h:∀j v,vs[j]? =some v->s.cell? (a.add j)=some v):Yl P ⟨d,.load t x,ty,p,af,g⟩ ρ s (.agg vs.toArray):=
 Ft (sm:=Instr.loadAt t (ρ x)) rfl (by rw [U];exact P5 K O h ⟨rfl,rfl⟩)
theorem Yl.fieldAddr{a:Addr}{O:Array Field}{i:Nat}{K:Field}{U:Nat}(Y:P.underlying t=some (.struct O))(hi:O[i]? =some K)(Z:Bl P K.type=some (U+1))(aa:ρ x= .pointer (some a)):
  Yl P ⟨d,.fieldAddr t x i,ty,p,af,g⟩ ρ s (.pointer (some (a.add K.offset))):=
 Ft (sm:=Instr.fieldAt t (ρ x) i) rfl (by
  rw [aa];unfold Instr.fieldAt
  refine As _ _ (Ce Y ?_)
  simp only [hi,Instr.sureAddr,bind,Sem.bind,pure]
  refine As (x:=fieldPlace a K) _ ?_
  unfold fieldPlace
  refine As _ _ (ED Z ?_)
  simp only [Nat.add_eq_zero_iff,Nat.succ_ne_self,and_false,if_false,lp,pure]
  exact⟨trivial,trivial⟩)
theorem Li{a:Addr}{l c K:Nat}(O:P.underlying t=some (.slice e))(U:Bl P e=some K)(Y:ρ x= .slice (some a) l c)(Z:ρ y= .int kd m)(h:0<=m/\m<l):
  Yl P ⟨d,.indexAddr t x y,ty,p,af,g⟩ ρ s (.pointer (some (a.add (m.toNat*K)))):=
 Ft (sm:=Instr.indexAt t (ρ x) (ρ y)) rfl (by
  rw [Y,Z];unfold Instr.indexAt
  simp only [asIntOf,bind,Sem.bind,pure]
  refine As (x:=underlying t) _ (Ce O ?_)
  simp only [Sem.bind]
  refine As (x:=underlying t) _ (Ce O ?_)
  simp only [Sem.bind,h,and_self,if_true]
  refine As (x:=Go.sizeOf e) _ (ED U ?_)
  exact⟨rfl,rfl⟩)
theorem Qr{a:Addr}{l K:Nat}(O:P.underlying t=some (.array l e))(U:Bl P e=some K)(Y:ρ x= .pointer (some a))(Z:ρ y= .int kd m)(h:0<=m/\m<l):
  Yl P ⟨d,.indexAddr t x y,ty,p,af,g⟩ ρ s (.pointer (some (a.add (m.toNat*K)))):=
 Ft (sm:=Instr.indexAt t (ρ x) (ρ y)) rfl (by
  rw [Y,Z];unfold Instr.indexAt
  simp only [asIntOf,bind,Sem.bind,pure]
  refine As (x:=underlying t) _ (Ce O ?_)
  simp only [Sem.bind,Instr.sureAddr,pure]
  refine As (x:=underlying t) _ (Ce O ?_)
  simp only [Sem.bind,h,and_self,if_true]
  refine As (x:=Go.sizeOf e) _ (ED U ?_)
  exact⟨rfl,rfl⟩)
end
section
variable {P:Program}{J:Judge P}{Q:Gs_}{b:Frame}{n:Nat}{L L':Env}{ds:Ld_}{k:Li_}{cs:Lf_}{E H:LH}{B B':List (Nat×Obj)}
variable {ops:Ao_}{i:Nat}{rest:List Nat}{d:Option Tmp}{x y:Operand}{t u ty e:TypeId}{p:String}{af:Ae_}{g:On_}{v:Value}
theorem IQ{cells:Av_}{Q:Addr->St->Prop}{X:Halt->St->Prop}(K:Nd E H B)(k:∀r,Nd E H (B++ [(r,.cells cells e (0,0))])->Q ⟨r,0,none⟩ (mk E H (B++ [(r,.cells cells e (0,0))]))):lp P (newRow e cells) (mk E H B) Q X:=by
 simp only [newRow,newObj,bind,Sem.bind,lp,pure];refine⟨rfl,λr O U=>?_⟩;obtain⟨Y,Z⟩:=J6 O U (.cells cells e (0,0)) K;rw [Z];exact k r Y
theorem JL.alloc{z:Value}(K:ops[i]? =some ⟨d,.alloc e,ty,p,af,g⟩)(hw:AM L ops ⟨d,.alloc e,ty,p,af,g⟩=some true)(O:BF b n ⟨d,.alloc e,ty,p,af,g⟩=true)(U:Nd E H B)(Y:zeroOf P e=some z)
  (h:∀r,Nd E H (B++ [(r,.cells z.cells e (0,0))])->JL J Q b n (Au L d (.pointer (some ⟨r,0,none⟩))) ds (.inRegion ops rest::k) cs (mk E H (B++ [(r,.cells z.cells e (0,0))]))):
  JL J Q b n L ds (.inRegion ops (i::rest)::k) cs (mk E H B):=
 JL.op K hw O λρ _=>by
  show lp P (do pure (Next.value (← Instr.alloc e true (.tuple #[])))) _ _ _
  refine As _ _ ?_
  unfold Instr.alloc
  refine As _ _ (Hm Y ?_)
  refine As _ _ (IQ U λr Z=>?_)
  exact h r Z
theorem JL.box(K:ops[i]? =some ⟨d,.box e x,ty,p,af,g⟩)(hw:AM L ops ⟨d,.box e x,ty,p,af,g⟩=some true)(O:BF b n ⟨d,.box e x,ty,p,af,g⟩=true)(U:Nd E H B)(Y:ev L x=some v)
  (h:∀r,Nd E H (B++ [(r,.cells v.cells e (0,0))])->JL J Q b n (Au L d (.pointer (some ⟨r,0,none⟩))) ds (.inRegion ops rest::k) cs (mk E H (B++ [(r,.cells v.cells e (0,0))]))):
  JL J Q b n L ds (.inRegion ops (i::rest)::k) cs (mk E H B):=
 JL.op K hw O λρ Z=>by
  show lp P (do pure (Next.value (← Instr.box e (ρ x)))) _ _ _
  rw [Z x v Y]
  refine As _ _ ?_
  unfold Instr.box
  refine As _ _ (IQ U λr aa=>?_)
  exact h r aa
def Bb(c:Av_)(off:Nat):Lv_->Av_
 | []=>c
 | v::vs=>Bb (c.setIfInBounds off v) (off+1) vs
theorem Lg(c:Av_)(off:Nat)(vs:Lv_):(Bb c off vs).size=c.size:=by
 induction vs generalizing c off with
 | nil=>rfl
 | cons v vs K=>simp [Bb,K]
theorem Ml{bk:Nat}{Q:Unit->St->Prop}{X:Halt->St->Prop}{pl off:Nat}{sp:Option Nat}:∀(vs:Lv_) (j:Nat) (c:Av_) (B:List (Nat×Obj)),(∀v∈vs,CU v=true)->Nd E H B->B[pl]? =some (bk,.cells c e (0,0))->off+j+vs.length<=c.size->(sp=none∨0<j)->
  (∀B',B'=B.set pl (bk,.cells (Bb c (off+j) vs) e (0,0))->Nd E H B'->Q () (mk E H B'))->lp P (storeCells ⟨bk,off,sp⟩ vs j) (mk E H B) Q X
 | [],j,c,B,_,O,K,_,_,k=>by
  simp only [storeCells,lp,pure]
  refine k B ?_ O
  simp only [Bb]
  exact(List.ext_getElem? λi=>by
   by_cases hi:pl=i
   ·subst hi
    obtain⟨Z,aa⟩:=List.getElem?_eq_some_iff.1 K
    simp [Z,aa]
   ·simp [hi])
 | v::vs,j,c,B,U,O,K,hle,Y,k=>by
  simp only [storeCells,List.length_cons] at*
  have ab:off+j<c.size:=by omega
  have ac:(Addr.add ⟨bk,off,sp⟩ j)=⟨bk,off+j,none⟩:=by
   unfold Addr.add;split
   ·rename_i ae;subst ae;rcases Y with rfl | Y
    ·rfl
    ·omega
   ·rfl
  have ag:(cellAt (.cells c e (0,0)) ⟨bk,off+j,none⟩).isSome=true:=by simp [cellAt,ab]
  refine As (x:=store (Addr.add ⟨bk,off,sp⟩ j) v) _ ?_;rw [ac];refine⟨rfl,U v (by simp),_,IV O K,ag,by simp [frozenAt],?_⟩;simp only [lp];have ah:Ke (.cells c e (0,0)) ⟨bk,off+j,none⟩ v= .cells (c.setIfInBounds (off+j) v) e (0,0):=by simp [Ke]
  rw [ah,Yp O K];have ai:(B.set pl (bk,.cells (c.setIfInBounds (off+j) v) e (0,0)))[pl]? =some (bk,.cells (c.setIfInBounds (off+j) v) e (0,0)):=by
   have:pl<B.length:=(List.getElem?_eq_some_iff.1 K).1;simp [this]
  refine Ml vs (j+1) _ _ (λu hu=>U u (List.mem_cons_of_mem _ hu)) (O.set K) ai (by simp;omega) (.inr (by omega)) λaj e2 ak=>k aj ?_ ak;rw [e2,List.set_set];simp only [Bb]
  rfl
theorem P3{bk off pl:Nat}{c:Av_}{Q:Unit->St->Prop}{X:Halt->St->Prop}(K:Bl P t=some v.cells.size)(O:∀u∈v.cells.toList,CU u=true)(U:Nd E H B)(Y:B[pl]? =some (bk,.cells c e (0,0)))(hle:off+v.cells.size<=c.size)
  (k:Nd E H (B.set pl (bk,.cells (Bb c off v.cells.toList) e (0,0)))->Q () (mk E H (B.set pl (bk,.cells (Bb c off v.cells.toList) e (0,0))))):lp P (storeVar t ⟨bk,off,none⟩ v) (mk E H B) Q X:=by
 unfold storeVar;refine As _ _ (ED K ?_);simp only [ne_eq,not_true_eq_false,if_false];refine Ml v.cells.toList 0 c B O U Y (by simpa using hle) (.inl rfl) λB' e Z=>?_;subst e;exact k Z
theorem JL.store{bk off:Nat}{c:Av_}(pl:Nat)(O:ops[i]? =some ⟨d,.store t x y,ty,p,af,g⟩)(hw:AM L ops ⟨d,.store t x y,ty,p,af,g⟩=some true)(U:BF b n ⟨d,.store t x y,ty,p,af,g⟩=true)(Y:Nd E H B)
  (Z:ev L x=some (.pointer (some ⟨bk,off,none⟩))) (aa:ev L y=some v) (ab:Bl P t=some v.cells.size) (ac:∀u∈v.cells.toList,CU u=true) (ae:B[pl]? =some (bk,.cells c e (0,0))) (hle:off+v.cells.size<=c.size)
  (h:Nd E H (B.set pl (bk,.cells (Bb c off v.cells.toList) e (0,0)))->JL J Q b n (Au L d undef) ds (.inRegion ops rest::k) cs (mk E H (B.set pl (bk,.cells (Bb c off v.cells.toList) e (0,0))))):
  JL J Q b n L ds (.inRegion ops (i::rest)::k) cs (mk E H B):=
 JL.op O hw U λρ K=>by
  show lp P (do Instr.storeAt t (ρ x) (ρ y);pure Next.skip) _ _ _
  rw [K x _ Z,K y _ aa]
  refine As _ _ ?_
  unfold Instr.storeAt
  simp only [Instr.sureAddr,bind,Sem.bind,pure]
  exact P3 ab ac Y ae hle λag=>h ag
end
end Pal
namespace Pal
open Go Go.Conc
def FB(P:Program)(t:TypeId):Option Nat:=(P.info? t).map (·.bytes)
section
variable {P:Program}{J:Judge P}{Q:Gs_}{b:Frame}{n:Nat}{L L':Env}{ds:Ld_}{k:Li_}{cs:Lf_}{E H:LH}{B B':List (Nat×Obj)}{s:St}
variable {ops:Ao_}{i:Nat}{rest:List Nat}{d:Option Tmp}{x y:Operand}{t u ty e:TypeId}{p:String}{af:Ae_}{g:On_}{v:Value}
theorem JZ{inf:TypeInfo}{Q:TypeInfo->St->Prop}{X:Halt->St->Prop}(h:P.info? t=some inf)(k:Q inf s):lp P (typeInfo t) s Q X:=by
 simp only [typeInfo,bind,Sem.bind,program,lp,h];exact k
theorem Ob{K:Nat}(h:FB P t=some K):∃inf,P.info? t=some inf/\inf.bytes=K:=by
 unfold FB at h;cases hi:P.info? t with
 | none=>rw [hi] at h;cases h
 | some i=>rw [hi] at h;simp at h;exact⟨i,rfl,h⟩
theorem IU{β:Type}{z y:Nat}{code:BoundsCode}{f:Nat->Sem β}{K:β->St->Prop}{X:Halt->St->Prop}(Y:z<=y)(O:lp P (f z) s K X):lp P (Instr.sliceBound (.int .i64 z) y code>>=f) s K X:=by
 refine As _ _ ?_;unfold Instr.sliceBound;have U:(0:Int)<=(z:Int)/\(z:Int)<=(y:Int):=⟨by omega,by omega⟩;simp only [asIntOf,bind,Sem.bind,pure];rw [if_pos U];simpa [lp] using O
theorem HQ{α β:Type}(a:α)(f:α->Sem β):((pure a:Sem α)>>=f)=f a:=rfl
theorem Zj{l c:Nat}{X:Halt->St->Prop}:lp P (Instr.sliceBounds true l c none none none) s (λr s'=>r=(0,l,c)/\s'=s) X:=by
 unfold Instr.sliceBounds;exact⟨rfl,rfl⟩
theorem Y8{l c:Nat}{lo:Nat}(K:lo<=l){X:Halt->St->Prop}:lp P (Instr.sliceBounds true l c (some (.int .i64 lo)) none none) s (λr s'=>r=(lo,l,c)/\s'=s) X:=by
 simp only [Instr.sliceBounds,if_true,Option.isSome_none,Option.isSome_some,Bool.false_eq_true,if_false,HQ];exact IU K ⟨rfl,rfl⟩
theorem Ze{l c:Nat}{hi:Nat}(hh:hi<=c){X:Halt->St->Prop}:lp P (Instr.sliceBounds true l c none (some (.int .i64 hi)) none) s (λr s'=>r=(0,hi,c)/\s'=s) X:=by
 simp only [Instr.sliceBounds,if_true,Option.isSome_none,Option.isSome_some,Bool.false_eq_true,if_false,HQ];exact IU hh ⟨rfl,rfl⟩
theorem Zo{l c:Nat}{lo hi:Nat}(hh:hi<=c)(K:lo<=hi){X:Halt->St->Prop}:lp P (Instr.sliceBounds true l c (some (.int .i64 lo)) (some (.int .i64 hi)) none) s (λr s'=>r=(lo,hi,c)/\s'=s) X:=by
 have e:Instr.sliceBounds true l c (some (.int .i64 lo)) (some (.int .i64 hi)) none=(Instr.sliceBound (.int .i64 hi) c .sliceAcap>>=λh=>Instr.sliceBound (.int .i64 lo) h .sliceB>>=λl=>pure (l,h,c)):=by
  simp [Instr.sliceBounds]
 rw [e];exact IU hh (IU K ⟨rfl,rfl⟩)
theorem ZP{l c:Nat}{hi mx:Nat}(hm:mx<=c)(hh:hi<=mx){X:Halt->St->Prop}:lp P (Instr.sliceBounds true l c none (some (.int .i64 hi)) (some (.int .i64 mx))) s (λr s'=>r=(0,hi,mx)/\s'=s) X:=by
 simp only [Instr.sliceBounds,if_true,Option.isSome_none,Option.isSome_some,Bool.false_eq_true,if_false,HQ];exact IU hm (IU hh ⟨rfl,rfl⟩)
theorem ZJ{l c:Nat}{lo hi mx:Nat}(hm:mx<=c)(hh:hi<=mx)(K:lo<=hi){X:Halt->St->Prop}:lp P (Instr.sliceBounds true l c (some (.int .i64 lo)) (some (.int .i64 hi)) (some (.int .i64 mx))) s (λr s'=>r=(lo,hi,mx)/\s'=s) X:=by
 simp only [Instr.sliceBounds,if_true,Option.isSome_none,Option.isSome_some,Bool.false_eq_true,if_false,HQ];exact IU hm (IU hh (IU K ⟨rfl,rfl⟩))
theorem UQ{l c lo hi mx:Nat}{Y Z aa:Option Value}{X:Halt->St->Prop}
  (O:match aa with | some w=>w= .int .i64 mx | none=>mx=c) (K:match Z with | some w=>w= .int .i64 hi | none=>hi=l/\aa=none) (U:match Y with | some w=>w= .int .i64 lo | none=>lo=0) (hm:mx<=c) (hh:hi<=mx) (ab:lo<=hi):
  lp P (Instr.sliceBounds true l c Y Z aa) s (λr s'=>r=(lo,hi,mx)/\s'=s) X:=by
 cases aa with
 | none=>
  cases Z with
  | none=>
   cases Y with
   | none=>obtain rfl:mx=c:=O;obtain rfl:hi=l:=K.1;obtain rfl:lo=0:=U;exact Zj
   | some w=>obtain rfl:mx=c:=O;obtain rfl:hi=l:=K.1;obtain rfl:w= .int .i64 lo:=U;exact Y8 ab
  | some w=>
   cases Y with
   | none=>obtain rfl:mx=c:=O;obtain rfl:w= .int .i64 hi:=K;obtain rfl:lo=0:=U;exact Ze hh
   | some w'=>obtain rfl:mx=c:=O;obtain rfl:w= .int .i64 hi:=K;obtain rfl:w'= .int .i64 lo:=U;exact Zo hh ab
 | some w0=>
  cases Z with
  | none=>exact absurd K.2 (λh=>by cases h)
  | some w=>
   cases Y with
   | none=>obtain rfl:w0= .int .i64 mx:=O;obtain rfl:w= .int .i64 hi:=K;obtain rfl:lo=0:=U;exact ZP hm hh
   | some w'=>obtain rfl:w0= .int .i64 mx:=O;obtain rfl:w= .int .i64 hi:=K;obtain rfl:w'= .int .i64 lo:=U;exact ZJ hm hh ab
theorem VH{a:Option Addr}{l c O lo hi mx:Nat}{U Y K:Option Value}{Q:Value->St->Prop}{X:Halt->St->Prop}(Z:P.underlying t=some (.slice e))(aa:Bl P e=some O)
  (ab:match K with | some w=>w= .int .i64 mx | none=>mx=c) (ac:match Y with | some w=>w= .int .i64 hi | none=>hi=l/\K=none) (ae:match U with | some w=>w= .int .i64 lo | none=>lo=0) (hm:mx<=c) (hh:hi<=mx) (ag:lo<=hi)
  (k:Q (.slice (if mx=lo then a else a.map (·.add (lo*O))) (hi - lo) (mx - lo)) s):lp P (Instr.slice t (.slice a l c) U Y K) s Q X:=by
 unfold Instr.slice;refine As _ _ (Ce Z ?_);have hb:=UQ (P:=P) (s:=s) (X:=X) ab ac ae hm hh ag;refine As _ _ (Ec _ hb ?_ (λ_ _ h=>h));rintro r s' ⟨rfl,rfl⟩;exact As _ _ (ED aa k)
theorem Yl.slice{ρ:Operand->Value}{a:Option Addr}{l c O lo hi mx:Nat}{olo ohi omx:Option Operand}(U:P.underlying t=some (.slice e))(Y:Bl P e=some O)(Z:ρ x= .slice a l c)
  (aa:match omx with | some w=>ρ w= .int .i64 mx | none=>mx=c) (K:match ohi with | some w=>ρ w= .int .i64 hi | none=>hi=l/\omx=none) (ab:match olo with | some w=>ρ w= .int .i64 lo | none=>lo=0) (hm:mx<=c) (hh:hi<=mx) (ac:lo<=hi):
  Yl P ⟨d,.slice t x olo ohi omx,ty,p,af,g⟩ ρ s (.slice (if mx=lo then a else a.map (·.add (lo*O))) (hi - lo) (mx - lo)):=
 Ft (sm:=Instr.sliceAt t (ρ x) (olo.map ρ) (ohi.map ρ) (omx.map ρ)) rfl (by
  rw [Z];unfold Instr.sliceAt
  refine As _ _ (Ce U ?_)
  refine VH U Y (mx:=mx) (hi:=hi) (lo:=lo) ?_ ?_ ?_ hm hh ac ⟨rfl,rfl⟩
  ·cases omx <;> exact aa
  ·cases ohi with
   | none=>exact⟨K.1,by rw [K.2];rfl⟩
   | some w=>exact K
  ·cases olo <;> exact ab)
def HA(s:St)(v:Value)(K:Nat)(xs:Lv_):Prop:=
 match v with
 | .slice (some a) l c=>(a.spot=none∨l=0)/\xs.length=l*K/\l<=c/\∀j w,xs[j]? =some w->s.cell? ⟨a.block,a.off+j,none⟩=some w
 | .slice none l _=>l=0/\xs= []
 | _=>False
theorem Dm{a:Addr}(h:a.spot=none)(j:Nat):a.add j=⟨a.block,a.off+j,none⟩:=by
 unfold Addr.add;obtain⟨b,o,sp⟩:=a;simp only at h;subst h;split
 ·rename_i e;subst e;rfl
 ·rfl
theorem JX{Y l:Nat}{xs:Lv_}{Q:Av_->St->Prop}{X:Halt->St->Prop}(Z:∃a c,v= .slice a l c)(h:HA s v Y xs)(k:Q xs.toArray s):lp P (Builtin.firstCells Y l v) s Q X:=by
 obtain⟨a,c,rfl⟩:=Z;cases a with
 | none=>
  obtain⟨K,rfl⟩:=h;exact k
 | some a=>
  obtain⟨K,O,ab,aa⟩:=h;refine PX O.symm (λj w U=>?_) k;rcases K with K | K
  ·rw [Dm K];exact aa j w U
  ·rw [K,Nat.zero_mul] at O;rw [List.eq_nil_of_length_eq_zero O] at U;cases U
theorem Vb(nl:Nat):∀(r c:Nat),Builtin.growBy nl r c<=max c (2*nl+768):=by
 intro r
 induction r with
 | zero=>intro c;simp [Builtin.growBy];omega
 | succ r K=>
  intro c;simp only [Builtin.growBy];split
  ·omega
  ·rename_i h;have:=K (c+(c+768) / 4);omega
theorem Qd{need old:Nat}(h:old<need):Builtin.nextslicecap need old<=2*need+768:=by
 unfold Builtin.nextslicecap;split
 ·omega
 ·split
  ·omega
  ·have:=Vb need 4 old;omega
theorem PQ(z:Av_)(m:Nat):(Builtin.zeroCells z m).size=m*z.size:=by simp [Builtin.zeroCells]
def No(B:List (Nat×Obj))(pl:Nat)(e:TypeId)(K:Nat)(a:Option Addr)(l c:Nat)(xs:Lv_):Prop:=
 (a=none/\l=0/\c=0/\xs= [])∨∃bk f,a=some ⟨bk,0,none⟩/\B[pl]? =some (bk,.cells f e (0,0))/\f.size=c*K/\l<=c/\xs=f.toList.take (l*K)
theorem NS(c:Av_)(off:Nat)(vs:Lv_)(h:off+vs.length<=c.size):(Bb c off vs).toList.take (off+vs.length)=c.toList.take off++vs:=by
 induction vs generalizing c off with
 | nil=>simp [Bb]
 | cons v vs O=>
  simp only [Bb,List.length_cons] at*;have:=O (c.setIfInBounds off v) (off+1) (by simp;omega);rw [show off+(vs.length+1)=off+1+vs.length from by omega,this];have K:off<c.toList.length:=by simp;omega
  rw [Array.toList_setIfInBounds,List.take_add_one];have U:(c.toList.set off v)[off]? =some v:=by simp at K;simp [K]
  rw [U];simp [List.take_set_of_le]
theorem N7{ats:Array TypeId}{a:Option Addr}{l c K Y m cx:Nat}{ax:Option Addr}{xs ys:Lv_}{z:Value}{Q:Value->St->Prop}{X:Halt->St->Prop}{pl:Nat}
  (av:ats[0]? =some t) {t1 aw:TypeId} (ay:ats[1]? =some t1) (az:P.underlying t1=some (.slice aw)) (aA:P.underlying t=some (.slice e)) (aB:Bl P e=some K) (hb:FB P e=some Y) (aC:zeroOf P e=some z) (aD:z.cells.size=K)
  (ah:Nd E H B) (ai:No B pl e K a l c xs)
  (ae:HA (mk E H B) (.slice ax m cx) K ys) (aE:∀w∈ys,CU w=true) (aP:0<Y) (aQ:l+m<=2 ^ 40) (aF:Y<=64)
  (aG:∀bk f O,a=some ⟨bk,0,none⟩->B[pl]? =some (bk,.cells f e (0,0))->O=Bb f (l*K) ys->l+m<=c->O.size=c*K->O.toList.take ((l+m)*K)=xs++ys->Nd E H (B.set pl (bk,.cells O e (0,0)))->Q (.slice a (l+m) c) (mk E H (B.set pl (bk,.cells O e (0,0)))))
  (aH:a=none->m=0->Q (.slice none 0 0) (mk E H B))
  (aI:∀r O Z,l+m<=Z->O.size=Z*K->O.toList.take ((l+m)*K)=xs++ys->Nd E H (B++ [(r,.cells O e (0,0))])->Q (.slice (some ⟨r,0,none⟩) (l+m) Z) (mk E H (B++ [(r,.cells O e (0,0))]))):
  lp P (Builtin.append_ ats ty #[.slice a l c,.slice ax m cx]) (mk E H B) Q X:=by
 unfold Builtin.append_;simp only [av,ay,List.getElem?_toArray,List.getElem?_cons_zero,List.getElem?_cons_succ];refine As _ _ (Ce aA ?_);refine As _ _ (ED aB ?_);refine As _ _ (Ce az ?_);simp only [HQ,Bool.false_eq_true,if_false,Builtin.lenOf,Bool.not_false,if_true];have aa:ys.length=m*K:=by
  cases ax with
  | none=>obtain⟨aj,ak⟩:=ae;subst aj ak;simp
  | some ad=>exact ae.2.1
 have al:∃(aJ:Option Addr) (Z:Nat),HA (mk E H B) (.slice a l c) K xs/\aJ=a/\Z=c:=by
  refine⟨a,c,?_,rfl,rfl⟩;rcases ai with⟨rfl,rfl,rfl,rfl⟩ | ⟨bk,f,rfl,ab,U,ac,rfl⟩
  ·exact⟨rfl,rfl⟩
  ·have hle:l*K<=f.size:=by rw [U];exact Nat.mul_le_mul_right _ ac
   refine⟨.inl rfl,by simp [Nat.min_eq_left hle],ac,λj w ag=>?_⟩;refine QV ah ab ?_;simp only [Nat.zero_add];rw [List.getElem?_take] at ag;split at ag
   ·simpa using ag
   ·cases ag
 obtain⟨_,_,al,_,_⟩:=al;have am:xs.length=l*K:=by
  rcases ai with⟨rfl,rfl,rfl,rfl⟩ | ⟨bk,f,rfl,ab,U,ac,rfl⟩
  ·simp
  ·have hle:l*K<=f.size:=by rw [U];exact Nat.mul_le_mul_right _ ac
   simp [Nat.min_eq_left hle]
 split
 ·rename_i ar;refine As _ _ (JX ⟨ax,cx,rfl⟩ ae ?_);rcases ai with⟨rfl,rfl,rfl,rfl⟩ | ⟨bk,f,rfl,ab,U,ac,rfl⟩
  ·obtain rfl:m=0:=by omega
   simp only;exact aH rfl rfl
  ·simp only;have hle:l*K+ys.length<=f.size:=by rw [aa,U,← Nat.add_mul];exact Nat.mul_le_mul_right _ ar
   have aK:(Addr.add ⟨bk,0,none⟩ (l*K))=⟨bk,l*K,none⟩:=by rw [Dm rfl];simp
   rw [aK];refine As _ _ (Ml (pl:=pl) ys.toArray.toList 0 f B (by simpa using aE) ah ab (by simpa using hle) (.inl rfl) λB' au an=>?_);simp only [Nat.add_zero] at au;subst au;refine aG bk f _ rfl ab rfl ar (by rw [Lg,U]) ?_ an;have:=NS f (l*K) ys hle;rw [aa,← Nat.add_mul] at this;exact this
 ·rename_i aR;have aj:¬(((l+m:Nat):Int)>IntKind.i64.max/\(False∨Y=0)):=by rintro⟨_,h | h⟩ <;> omega
  have ak:¬(Builtin.nextslicecap (l+m) c*Y>2 ^ 48):=by
   have:=Qd (need:=l+m) (old:=c) (by omega);have aS:Builtin.nextslicecap (l+m) c*Y<=(2*(l+m)+768)*64:=Nat.mul_le_mul this aF;omega
  obtain⟨inf,ao,ap⟩:=Ob hb;refine As _ _ (JZ ao ?_);rw [ap,if_neg aj];refine As _ _ (JZ ao ?_);rw [ap,if_neg ak];refine As _ _ ?_;simp only [choose,lp,Question.forced,Bool.false_eq_true,if_false];refine⟨rfl,λaL=>?_⟩;generalize aM:(Question.appendCap (l+m) c e).cut aL=aq;have aN:l+m<=aq:=by rw [← aM];simp [Question.cut]
  refine As _ _ (JZ ao ?_);rw [ap];have aO:∀{α:Type} {f:Unit->Sem α} {Q:α->St->Prop},lp P (f ()) (mk E H B) Q X->lp P (askRoom (aq*Y)>>=f) (mk E H B) Q X:=by
   intro α f Q U;refine As _ _ ?_;unfold askRoom;split
   ·exact⟨.inl ⟨rfl,rfl⟩,U⟩
   ·exact U
  refine aO (As _ _ (JX ⟨a,c,rfl⟩ al ?_));refine As _ _ (JX ⟨ax,cx,rfl⟩ ae ?_);refine As _ _ (Hm aC ?_);refine As _ _ (IQ ah λr an=>?_);refine aI r _ aq aN ?_ ?_ an
  ·simp only [Array.size_append,List.size_toArray,PQ,aD,am,aa];rw [← Nat.add_mul,← Nat.add_mul];congr 1;omega
  ·simp only [Array.toList_append];rw [List.take_append_of_le_length (by simp [am,aa,Nat.add_mul])];rw [List.take_of_length_le (by simp [am,aa,Nat.add_mul])]
end
end Pal
namespace Pal
open Go Go.Conc
theorem Ny{P:Program}{α:Type}(x:Sem α):∀{s:St} {Q:α->St->Prop} {X:Halt->St->Prop},lp P x s Q X->lp P x s (λa s'=>Q a s'/\s'.E=s.E/\s'.q=s.q) X:=by
 induction x with
 | pure a=>intro s Q X h;exact⟨h,rfl,rfl⟩
 | load m a k K=>intro s Q X h;obtain⟨O,v,U,Y⟩:=h;exact⟨O,v,U,K _ Y⟩
 | store m a v k K=>intro s Q X h;obtain⟨O,U,o,Y,aa,ab,ac⟩:=h;exact⟨O,U,o,Y,aa,ab,K ac⟩
 | new o k K=>intro s Q X h;exact⟨h.1,λr O U=>K _ (h.2 r O U)⟩
 | shape r k K=>intro s Q X h;obtain⟨o,O,U⟩:=h;exact⟨o,O,K _ U⟩
 | freeze a n k K=>intro s Q X h;exact h
 | frozen a k K=>intro s Q X h;obtain⟨o,O,U⟩:=h;exact⟨o,O,K _ U⟩
 | getObj r k K=>intro s Q X h;obtain⟨o,O,U,Y⟩:=h;exact⟨o,O,U,K _ Y⟩
 | setObj r o k K=>intro s Q X h;obtain⟨O,U,Y⟩:=h;exact⟨O,U,K Y⟩
 | choose q k K=>
  intro s Q X h;simp only [lp] at h ⊢;split
  ·rename_i Z;rw [if_pos Z] at h;exact K _ h
  ·rename_i Z;rw [if_neg Z] at h;exact⟨h.1,λt=>K _ (h.2 t)⟩
 | sys c k K=>intro s Q X h;exact h
 | program k K=>intro s Q X h;exact K _ h
 | mark m k K=>intro s Q X h;exact⟨h.1,K h.2⟩
 | halt h=>intro s Q X h;exact h
def Br(D:Nat->Bool)(s:St):St:=⟨λb=>if D b then s.get b else s.E b,λb=>if D b then none else s.H b,s.q⟩
def Ck(D:Nat->Bool)(s s':St):St:=⟨λb=>if D b then s.E b else s'.E b,λb=>if D b then s.H b else s'.H b,s'.q⟩
theorem KB(D:Nat->Bool)(s:St):Ck D s (Br D s)=s:=by
 obtain⟨E,H,q⟩:=s;unfold Ck Br;congr 1
 ·funext b;by_cases h:D b <;> simp [h]
 ·funext b;by_cases h:D b <;> simp [h]
theorem Wg{D:Nat->Bool}{s:St}{w:World}(f:Fits s w):Fits (Br D s) w where
 e b o h:=by
  by_cases hd:D b
  ·simp [Br,hd] at h;exact f.get h
  ·simp [Br,hd] at h;exact f.e b o h
 h b o h:=by
  by_cases hd:D b
  ·simp [Br,hd] at h
  ·simp [Br,hd] at h;exact f.h b o h
 d b h:=by
  by_cases hd:D b
  ·simp [Br,hd]
  ·simp [Br,hd] at h ⊢;exact f.d b h
def Ez{P:Program}(J:Judge P)(f:FuncId)(args:Av_)(s:St)(R:Value->St->Prop):Prop:=
 ∀(Q:Gs_) (c:Frame) (cs:Lf_),(∀v s',R v s'->J.ok Q (G (c.finish v) cs) s')->J.ok Q (G (Frame.enter P f args .normal) (c::cs)) s
theorem Ez.Ag{P:Program}{J:Judge P}{f:FuncId}{args:Av_}{s:St}{R K:Value->St->Prop}(h:Ez J f args s R)(O:∀v s',R v s'->K v s'):Ez J f args s K:=
 λQ c cs U=>h Q c cs λv s' Y=>U v s' (O v s' Y)
section
variable {P:Program}{J:Judge P}{Q:Gs_}{b:Frame}{n:Nat}{L L':Env}{ds:Ld_}{k:Li_}{cs:Lf_}{s s':St}
theorem Judge.RL(D:Nat->Bool){T:Av_}{ops:Ao_}{i:Nat}{rest:List Nat}{o:Oper}(Y:ops[i]? =some o)(hw:Region.wanted o (yielded ops T)=true)(au:b.kind≠ .early)
  (hd:∀c,o.op≠ .defer c) (av:s.q=false)
  (h:lp P (execOp (Bs T) o) (Br D s) (λag s'=>upon J Q b T ds ops i rest k cs o.dst ag (Ck D s s')) (λ_ _=>False)):
  J.ok Q (G (fr b T ds (.inRegion ops (i::rest)::k)) cs) s:=by
 refine J.step ⟨rfl,λw f=>?_,λe=>by subst e;cases av⟩;have Z:((fr b T ds (.inRegion ops (i::rest)::k)).kind==CallKind.early)=false:=by simpa [fr] using au
 have aw:stepG P J.main (G (fr b T ds (.inRegion ops (i::rest)::k)) cs) w=stepG.apply P true (fr b T ds (.inRegion ops (i::rest)::k)) cs none (execOp (Bs T) o) w:=by
  rw [stepG_op Y hw];split
  ·rename_i l c aE e2;exact absurd e2 (hd c)
  ·rfl
 obtain⟨aa,ah,ai,ay,O⟩:=My _ (Ny _ h) (Wg (D:=D) f);have aj:=Ox (P:=P) (fn:=b.fn) ay;have an:=λv=>Ge (b:=b) (ds:=ds) (k:=k) T ops i rest v o Y;have key:∀w',Fits aa w'->Fr (Br D s) w aa w'->aa.E=(Br D s).E->Fits (Ck D s aa) w'/\Fr s w (Ck D s aa) w':=by
  intro w' ak g2 az;have ao:∀b,D b=true->b<w.heap.size->w'.heap[b]? =w.heap[b]? :=λb hb al=>g2.keep b al (by simp [Br,hb]);have ap:∀b o,(s.H b=some o∨s.E b=some o)->b<w.heap.size:=λb o Y=>by
   have:=Y.elim (f.h b o) (f.e b o);rcases Nat.lt_or_ge b w.heap.size with am | am
   ·exact am
   ·simp [Array.getElem?_eq_none am] at this
  refine⟨⟨λb o hb=>?_,λb o hb=>?_,λb hb=>?_⟩,⟨g2.size,λb al hb=>?_,λb hb=>?_,λb o hb=>?_,λb hb=>?_,g2.tape,g2.os,g2.output⟩⟩
  ·by_cases K:D b
   ·simp [Ck,K] at hb;rw [ao b K (ap b o (.inr hb))];exact f.e b o hb
   ·simp [Ck,K] at hb;exact ak.e b o hb
  ·by_cases K:D b
   ·simp [Ck,K] at hb;rw [ao b K (ap b o (.inl hb))];exact f.h b o hb
   ·simp [Ck,K] at hb;exact ak.h b o hb
  ·by_cases K:D b
   ·simp [Ck,K] at hb ⊢;exact f.d b hb
   ·simp [Ck,K] at hb ⊢;exact ak.d b hb
  ·exact g2.keep b al (by by_cases K:D b <;> simp [Br,K,hb])
  ·by_cases K:D b
   ·simp [Ck,K] at hb;exact .inl hb
   ·simp [Ck,K] at hb;rcases g2.own b hb with q | q
    ·left;simpa [Br,K] using q
    ·exact .inr q
  ·by_cases K:D b
   ·simp [Ck,K];exact hb
   ·simp only [Ck,K,Bool.false_eq_true,if_false];rw [az];simp [Br,K,hb]
  ·by_cases K:D b
   ·simp [Ck,K] at hb;exact .inl hb
   ·simp [Ck,K] at hb;rcases g2.Ex b hb with q | q | q
    ·left;simpa [Br,K] using q
    ·right;left;simpa [Br,K] using q
    ·exact .inr (.inr q)
 have aA:∀w',(∀e∈seen P b.fn ((execOp (Bs T) o).events P w #[]),Ev (Br D s) w w' e)->∀e∈seen P b.fn ((execOp (Bs T) o).events P w #[]),Ev s w w' e:=by
  intro w' he e hm;have:=he e hm;have aq:∀{b wr},Gy (Br D s) w w' b wr->Gy s w w' b wr:=by
   intro b wr ar;refine⟨ar.1,?_⟩;rcases ar.2 with q | q | ⟨q,q'⟩
   ·left;by_cases K:D b <;> simp [Br,K] at q;exact q
   ·exact .inr (.inl q)
   ·by_cases K:D b
    ·simp [Br,K,St.get] at q;by_cases ae:s.E b=none
     ·left;intro aB;rw [ae,aB] at q;exact q rfl
     ·exact .inr (.inr ⟨ae,q'⟩)
    ·simp [Br,K] at q;exact .inr (.inr ⟨q,q'⟩)
  unfold Ev at this ⊢;split <;> rename_i aC <;> simp only [aC] at this
  ·exact⟨this.1,aq this.2⟩
  ·exact⟨this.1,aq this.2⟩
  ·trivial
  ·trivial
 rw [aw];cases U:(execOp (Bs T) o).run P w with
 | ok ag w'=>
  rw [U] at ah ai O aj;simp only [Ko] at ah ai aj;obtain⟨O,ae,_⟩:=O;obtain⟨k1,ab⟩:=key w' ah ai ae;have ac:=aA w' aj;cases ag with
  | value v=>exact⟨_,_,w',seen P b.fn ((execOp (Bs T) o).events P w #[])++ #[],by simp [stepG.apply,U,Z,GStep.after,G,an,FT],O,k1,ab,by simpa using ac⟩
  | skip=>exact⟨_,_,w',seen P b.fn ((execOp (Bs T) o).events P w #[])++ #[],by simp [stepG.apply,U,Z,GStep.after,G,an,FT],O,k1,ab,by simpa using ac⟩
  | enter g args=>exact⟨_,_,w',seen P b.fn ((execOp (Bs T) o).events P w #[])++ #[],by simp [stepG.apply,U,Z,GStep.after,G,FT,HX],O,k1,ab,by simpa using ac⟩
  | round l g tm as aF=>exact⟨_,_,w',seen P b.fn ((execOp (Bs T) o).events P w #[])++ #[],by simp [stepG.apply,U,Z,GStep.after,G,FT,HX],O,k1,ab,by simpa using ac⟩
  | defer d=>
   have aD:=Ge (b:=b) (ds:=d::ds) (k:=k) T ops i rest undef o Y;exact⟨_,_,w',seen P b.fn ((execOp (Bs T) o).events P w #[])++ #[],by
    rw [← aD];simp [stepG.apply,U,Z,GStep.after,G,FT,HX];rfl,O,k1,ab,by simpa using ac⟩
  | _=>exact O.elim
 | halt x w'=>rw [U] at O;exact O.elim
end
end Pal
namespace Pal
open Go Go.Conc
def Pq(m:Nat)(listed:Array Bool):Bool:=(List.range m).all λi=>listed.getD i false
def A6(listed:Array Bool)(i:Nat):Array Bool:=listed.setIfInBounds i true
section
variable {P:Program}(J:Judge P)(Q:Gs_)(b:Frame)(ds:Ld_)(ops:Ao_)(k:Li_)(cs:Lf_)(m:Nat)(D:Nat->Bool)
def JA:Nat->Array Bool->Av_->St->Prop
 | 0,listed,T,s=>Region.ready .any ops listed= []/\J.ok Q (G (fr b T ds (.inRegion ops []::k)) cs) s
 | fuel+1,listed,T,s=>
  (Pq m listed=true/\∀t,J.ok Q (G (fr b T ds (.inRegion ops (Region.linearise.go .any ops (fuel+1) t listed [])::k)) cs) s)∨
  (Region.ready .any ops listed≠ []/\s.q=false/\∀i∈Region.ready .any ops listed,∀o,ops[i]? =some o->(∀c,o.op≠ .defer c)/\
   (Region.wanted o (yielded ops T)=false->JA fuel (A6 listed i) (Cx T o.dst undef) s)/\
   (Region.wanted o (yielded ops T)=true->lp P (execOp (Bs T) o) (Br D s) (λO s'=>match O with
    | .value v=>JA fuel (A6 listed i) (Cx T o.dst v) (Ck D s s')
    | .skip=>JA fuel (A6 listed i) (Cx T o.dst undef) (Ck D s s')
    | .enter f args=>∃R,Ez J f args (Ck D s s') R/\∀v K,R v K->K.q=false/\(∀x o,(Br D s).E x=some o->(Br D K).E x=some o)/\JA fuel (A6 listed i) (Cx T o.dst v) K
    | _=>False) (λ_ _=>False)))
variable {J Q b ds ops k cs m D}
theorem Wi(Z:b.kind≠ .early):∀(fuel t:Nat) (listed:Array Bool) (T:Av_) (s:St),JA J Q b ds ops k cs m D fuel listed T s->
  J.ok Q (G (fr b T ds (.inRegion ops (Region.linearise.go .any ops fuel t listed [])::k)) cs) s:=by
 intro fuel
 induction fuel with
 | zero=>intro t listed T s h;simpa [Region.linearise.go] using h.2
 | succ fuel K=>
  intro t listed T s h;rcases h with⟨_,h⟩ | ⟨aa,ab,h⟩
  ·exact h t
  ·obtain⟨i,hi⟩:∃i,(Region.ready .any ops listed)[t % (Region.ready .any ops listed).length]? =some i:=by
    have:0<(Region.ready .any ops listed).length:=List.length_pos_iff.2 aa;exact⟨_,List.getElem?_eq_getElem (Nat.mod_lt _ this)⟩
   have Y:=List.mem_of_getElem? hi;have hgo:Region.linearise.go .any ops (fuel+1) t listed []=i::Region.linearise.go .any ops fuel (t / (Region.ready .any ops listed).length) (A6 listed i) []:=by
    simp only [Region.linearise.go];change (match(Region.ready .any ops listed)[t % (Region.ready .any ops listed).length]? with
     | some i=>Region.linearise.go .any ops fuel (t / (Region.ready .any ops listed).length) (listed.setIfInBounds i true) [i]
     | none=> [].reverse)=_
    rw [hi];simp only;rw [linearise_go_acc];rfl
   rw [hgo];obtain⟨_,o,O,_⟩:=mem_ready.1 Y;obtain⟨hd,ac,ae⟩:=h i Y o O;cases hw:Region.wanted o (yielded ops T) with
   | false=>exact Judge.unwanted O hw (K _ _ _ _ (ac hw))
   | true=>
    refine Judge.RL D O hw Z hd ab (Ec _ (ae hw) ?_ (λ_ _ h=>h));intro ag s' U;cases ag with
    | value v=>exact K _ _ _ _ U
    | skip=>exact K _ _ _ _ U
    | enter f args=>
     obtain⟨R,ah,ai⟩:=U;refine ah Q _ cs λv aj ak=>?_;rw [Ge _ _ _ _ _ _ O];exact K _ _ _ _ (ai v aj ak).2.2
    | _=>exact U.elim
theorem Wr{T:Av_}{d:Option Tmp}{v:Value}{x:Operand}(h:∀t,d=some t->x≠ .tmp t):Bs (Cx T d v) x=Bs T x:=by
 cases d with
 | none=>rfl
 | some t=>
  cases x with
  | tmp u=>
   have K:t≠u:=λe=>h t rfl (e▸rfl);simp only [Cx,Bs,Array.getD_eq_getD_getElem?,Array.getElem?_setIfInBounds_ne K]
  | _=>rfl
theorem HS{T:Av_}{d:Option Tmp}{v:Value}{o:Oper}(K:∀cs b,o.op≠ .select cs b)(h:∀t,d=some t->t ∉ o.looksAt ops):
  execOp (Bs (Cx T d v)) o=execOp (Bs T) o/\Region.wanted o (yielded ops (Cx T d v))=Region.wanted o (yielded ops T):=by
 refine⟨execOp_congr o K λx O=>Wr λt U Y=>h t U ?_,?_⟩
 ·subst Y;exact List.mem_append_left _ (List.mem_filterMap.2 ⟨.tmp t,by simpa using O,rfl⟩)
 ·have:=wanted_put (ops:=ops) o (⟨T,[]⟩:Act) d v h
  rwa [act_put'] at this
 where
  act_put' {T : Av_} {d : Option Tmp} {v : Value} : (⟨T, []⟩ : Act).put d v = ⟨Cx T d v, []⟩ := by cases d <;> rfl
theorem IP{T:Av_}{d e:Option Tmp}{v u:Value}(h:∀t,d=some t->e≠some t):Cx (Cx T d v) e u=Cx (Cx T e u) d v:=by
 cases d with
 | none=>rfl
 | some t=>
  cases e with
  | none=>rfl
  | some K=>
   have O:t≠K:=λq=>h t rfl (q▸rfl);simp [Cx,Array.setIfInBounds_comm _ _ O]
theorem P8{D:Nat->Bool}{s s':St}(K:s'.E=(Br D s).E):(Br D (Ck D s s')).E=(Br D s).E:=by
 funext x;by_cases h:D x
 ·simp [Br,Ck,h,St.get]
 ·have:=congrFun K x;simp [Br,h] at this;simp [Br,Ck,h,this]
def Iu(ops:Ao_)(listed:Array Bool)(i:Nat)(oi:Oper):Bool:=
 (List.range ops.size).all λj=>j==i || listed.getD j true || match ops[j]? with
  | some K=>(K.after.any λe=>Region.binds .any e&&e.on==i) || oi.apart ops K
  | none=>true
def waits(ops:Ao_):Nat->Nat->Nat->Bool
 | 0,_,_=>false
 | f+1,j,i=>match ops[j]? with
  | some K=>K.after.any λe=>Region.binds .any e&&(e.on==i || waits ops f e.on i)
  | none=>true
def Dv(ops:Ao_)(m:Nat):Bool:=
 (List.range ops.size).all λj=>decide (j<m) || (List.range m).all λi=>waits ops ops.size j i
def Hv(ops:Ao_)(listed:Array Bool):Bool:=
 (List.range ops.size).all λj=> !listed.getD j false || match ops[j]? with
  | some K=>K.after.all λe=> !Region.binds .any e || listed.getD e.on false
  | none=>true
theorem NT{listed:Array Bool}(h:Hv ops listed=true){j:Nat}{K:Oper}(O:ops[j]? =some K)(U:listed.getD j false=true):∀e∈K.after,Region.binds .any e=true->listed.getD e.on false=true:=by
 intro e he hb;have:=List.all_eq_true.1 h j (List.mem_range.2 (Array.getElem?_eq_some_iff.1 O).1);rw [U,O] at this;simp only [Bool.not_true,Bool.false_or] at this;have:=Array.all_eq_true'.1 this e he;rw [hb] at this;simpa using this
theorem PV{listed:Array Bool}(Z:Hv ops listed=true){i:Nat}:∀(f j:Nat) (O:Oper),ops[j]? =some O->(∀e∈O.after,Region.binds .any e=true->listed.getD e.on false=true)->waits ops f j i=true->listed.getD i false=true∨∃x,ops[x]? =none/\listed.getD x false=true:=by
 intro f
 induction f with
 | zero=>intro j O _ _ h;cases h
 | succ f aa=>
  intro j O ab hd h;simp only [waits,ab] at h;obtain⟨e,he,K⟩:=Array.any_eq_true'.1 h;simp only [Bool.and_eq_true,Bool.or_eq_true,beq_iff_eq] at K;obtain⟨hb,K⟩:=K;have U:=hd e he hb;rcases K with rfl | K
  ·exact .inl U
  ·cases Y:ops[e.on]? with
   | none=>exact .inr ⟨_,Y,U⟩
   | some o=>exact aa e.on o Y (λac ae ag=>NT Z Y U ac ae ag) K
theorem JA.take{i:Nat}{oi:Oper}{w:Bool}{v:Value}(hi:ops[i]? =some oi)(aT:i<m)(aU:Dv ops m=true)(aV:Region.noSelect ops=true)(aW:∀c,oi.op≠ .defer c):
  ∀(fuel:Nat) (listed:Array Bool) (T:Av_) (s:St),Iu ops listed i oi=true->Hv ops listed=true->listed.size=ops.size->i∈Region.ready .any ops listed->s.q=false->Region.wanted oi (yielded ops T)=w->
   (w=true->∀s',s'.q=false->(∀x o,(Br D s).E x=some o->s'.E x=some o)->Yl P oi (Bs T) s' v)->
   JA J Q b ds ops k cs m D fuel (A6 listed i) (Cx T oi.dst (if w then v else undef)) s->JA J Q b ds ops k cs m D (fuel+1) listed T s:=by
 have ai:∀(j:Nat) (ab:Oper),ops[j]? =some ab->∀cs b,ab.op≠Op.select cs b:=λj ab h cs b=>Region.noSelect_spec aV j ab cs b h;intro fuel
 induction fuel with
 | zero=>?_
 | succ fuel an=>?_
 all_goals
  intro listed T s aI aJ aj ao ap hw ak h;refine .inr ⟨λe=>(by rw [e] at ao;cases ao),ap,λj aK ab O=>?_⟩;by_cases ah:j=i
  ·subst ah;obtain rfl:ab=oi:=by rw [hi] at O;exact(Option.some.inj O).symm
   refine⟨aW,λaA=>?_,λaB=>?_⟩
   ·rw [aA] at hw;subst hw;exact h
   ·rw [aB] at hw;subst hw;refine Ec _ (ak rfl (Br D s) ap λ_ _ h=>h).out ?_ (λ_ _ h=>h);rintro aL s' ⟨rfl,rfl⟩;rw [KB];exact h
  ·
   have aM:j∈Region.ready .any ops (A6 listed i):=ready_mono aK ah;obtain⟨ac,U,aN,aC⟩:=mem_ready.1 aK;obtain rfl:U=ab:=by rw [O] at aN;exact(Option.some.inj aN).symm
   have aD:=(mem_ready.1 ao).1;have aX:(U.after.any λe=>Region.binds .any e&&e.on==i)=false:=by
    rw [Array.any_eq_false];intro e he K;simp only [Bool.and_eq_true,beq_iff_eq] at K;have:=aC _ (Array.getElem_mem he) K.1;rw [K.2] at this;have Y:listed.getD i true=listed.getD i false∨listed.size<=i:=by
     rcases Nat.lt_or_ge i listed.size with q | q
     ·left;simp [Array.getD_eq_getD_getElem?,q]
     ·exact .inr q
    rcases Y with Y | Y
    ·rw [aD,this] at Y;cases Y
    ·rw [Array.getD_eq_getD_getElem?,Array.getElem?_eq_none Y] at this;simp at this
   have aY:oi.apart ops U=true:=by
    have al:j<ops.size:=(Array.getElem?_eq_some_iff.1 O).1;have:=List.all_eq_true.1 aI j (List.mem_range.2 al);simp only [Bool.or_eq_true,beq_iff_eq] at this;rcases this with(q | q) | q
    ·exact absurd q ah
    ·rw [ac] at q;cases q
    ·rw [O] at q;simp only [Bool.or_eq_true] at q;rw [aX] at q;exact q.resolve_left (by simp)
   obtain⟨a1,aq,ar⟩:=Oper.apart_spec aY;obtain⟨aZ,p2⟩:=HS (ops:=ops) (T:=T) (v:=if w then v else undef) (ai j U O) a1
   first
    | exact absurd aM (by rw [h.1];simp)
    | (
     rcases h with⟨a0,_⟩ | ⟨bf,_,h⟩
     ·
      exfalso
      have a2:¬j<m:=by
       intro al
       have:=List.all_eq_true.1 a0 j (List.mem_range.2 al)
       have e2:(A6 listed i).getD j false=listed.getD j false:=getD_set_ne false (Ne.symm ah)
       rw [e2] at this
       have Y:listed.getD j true=true:=by
        rcases Nat.lt_or_ge j listed.size with q | q
        ·simp [Array.getD_eq_getD_getElem?,q] at this ⊢;exact this
        ·simp [Array.getD_eq_getD_getElem?,Array.getElem?_eq_none q] at this
       rw [ac] at Y;cases Y
      have al:j<ops.size:=(Array.getElem?_eq_some_iff.1 O).1
      have:=List.all_eq_true.1 aU j (List.mem_range.2 al)
      simp only [Bool.or_eq_true,decide_eq_true_eq] at this
      have:=List.all_eq_true.1 (this.resolve_left a2) i (List.mem_range.2 aT)
      rcases PV aJ _ j U O (λe he hb=>aC e he hb) this with q | ⟨x,Z,aa⟩
      ·have a3:i<listed.size:=by rw [aj];exact(Array.getElem?_eq_some_iff.1 hi).1
       simp [Array.getD_eq_getD_getElem?,a3] at q aD
       rw [aD] at q;cases q
      ·have:¬x<listed.size:=by rw [aj];intro K;simp [K] at Z
       simp [Array.getD_eq_getD_getElem?,this] at aa
     ·obtain⟨hd,aA,aB⟩:=h j aM U O
      have au:A6 (A6 listed i) j=A6 (A6 listed j) i:=by
       unfold A6;exact Array.setIfInBounds_comm _ _ (Ne.symm ah)
      have av:i∈Region.ready .any ops (A6 listed j):=ready_mono ao (Ne.symm ah)
      have aw:Iu ops (A6 listed j) i oi=true:=by
       refine List.all_eq_true.2 λx K=>?_
       have:=List.all_eq_true.1 aI x K
       simp only [Bool.or_eq_true,beq_iff_eq] at this ⊢
       rcases this with(q | q) | q
       ·exact .inl (.inl q)
       ·left;right
        by_cases e:j=x
        ·subst e;rw [ac] at q;cases q
        ·rw [A6,getD_set_ne true e];exact q
       ·exact .inr q
      have ay:(A6 listed j).size=ops.size:=by unfold A6;simpa using aj
      have az:Hv ops (A6 listed j)=true:=by
       refine List.all_eq_true.2 λx K=>?_
       cases aE:ops[x]? with
       | none=>simp
       | some a4=>
        simp only [Bool.or_eq_true,Bool.not_eq_true']
        by_cases e:j=x
        ·subst e
         obtain rfl:a4=U:=by rw [O] at aE;exact(Option.some.inj aE).symm
         right
         refine Array.all_eq_true'.2 λe he=>?_
         cases hb:Region.binds .any e with
         | false=>simp
         | true=>
          have:=aC e he hb
          by_cases e2:j=e.on
          ·rw [← e2] at this
           have aF:j<listed.size:=by rw [aj];exact(Array.getElem?_eq_some_iff.1 O).1
           simp [Array.getD_eq_getD_getElem?,aF] at this ac
           rw [ac] at this;cases this
          ·rw [A6,getD_set_ne false e2];simpa using this
        ·cases aO:(A6 listed j).getD x false with
         | false=>exact .inl rfl
         | true=>
          right
          have a5:listed.getD x false=true:=by rw [A6,getD_set_ne false e] at aO;exact aO
          refine Array.all_eq_true'.2 λaG he=>?_
          cases hb:Region.binds .any aG with
          | false=>simp
          | true=>
           have:=NT aJ aE a5 aG he hb
           by_cases e2:j=aG.on
           ·rw [← e2] at this
            have aF:j<listed.size:=by rw [aj];exact(Array.getElem?_eq_some_iff.1 O).1
            simp [Array.getD_eq_getD_getElem?,aF] at this ac
            rw [ac] at this;cases this
           ·rw [A6,getD_set_ne false e2];simpa using this
      refine⟨hd,λa6=>?_,λa7=>?_⟩
      ·have:=aA (by rw [p2];exact a6)
       rw [au,IP aq] at this
       obtain⟨Z,aa⟩:=HS (ops:=ops) (T:=T) (d:=U.dst) (v:=undef) (o:=oi) (ai i oi hi) ar
       exact an _ _ _ aw az ay av ap (by rw [aa];exact hw) (λae s' a8 aH=>by unfold Yl;rw [Z];exact(ak ae s' a8 aH).out) this
      ·have aP:=Ny _ (aB (by rw [p2];exact a7))
       rw [aZ] at aP
       refine Ec _ aP ?_ (λ_ _ h=>h)
       rintro aL s' ⟨K,aH,a9⟩
       have aQ:=P8 (D:=D) aH
       have aR:(Ck D s s').q=false:=by show s'.q=false;rw [a9];exact ap
       cases aL with
       | value u=>
        simp only at K ⊢
        rw [au,IP aq] at K
        obtain⟨Z,aa⟩:=HS (ops:=ops) (T:=T) (d:=U.dst) (v:=u) (o:=oi) (ai i oi hi) ar
        exact an _ _ _ aw az ay av aR (by rw [aa];exact hw) (λae s2 am ag=>by unfold Yl;rw [Z];exact(ak ae s2 am (by rw [aQ] at ag;exact ag)).out) K
       | skip=>
        simp only at K ⊢
        rw [au,IP aq] at K
        obtain⟨Z,aa⟩:=HS (ops:=ops) (T:=T) (d:=U.dst) (v:=undef) (o:=oi) (ai i oi hi) ar
        exact an _ _ _ aw az ay av aR (by rw [aa];exact hw) (λae s2 am ag=>by unfold Yl;rw [Z];exact(ak ae s2 am (by rw [aQ] at ag;exact ag)).out) K
       | enter f args=>
        obtain⟨R,ba,bb⟩:=K
        refine⟨R,ba,λu be hu=>?_⟩
        obtain⟨aS,r1,r2⟩:=bb u be hu
        refine⟨aS,r1,?_⟩
        rw [au,IP aq] at r2
        obtain⟨Z,aa⟩:=HS (ops:=ops) (T:=T) (d:=U.dst) (v:=u) (o:=oi) (ai i oi hi) ar
        exact an _ _ _ aw az ay av aS (by rw [aa];exact hw) (λae s2 am ag=>by unfold Yl;rw [Z];exact(ak ae s2 am (λx o K=>ag x o (r1 x o K))).out) r2
       | _=>exact K.elim)
end
end Pal
namespace Pal
open Go Go.Conc
section
variable {P:Program}(J:Judge P)(Q:Gs_)(b:Frame)(n:Nat)(ds:Ld_)(ops:Ao_)(k:Li_)(cs:Lf_)(m:Nat)(D:Nat->Bool)
def AN(fuel:Nat)(listed:Array Bool)(L:Env)(s:St):Prop:=∀T,Has n L T->JA J Q b ds ops k cs m D fuel listed T s
end
def C6:Nat->Bool:=λ_=>false
section
variable {P:Program}{J:Judge P}{Q:Gs_}{b:Frame}{n:Nat}{ds:Ld_}{ops:Ao_}{k:Li_}{cs:Lf_}{m fuel:Nat}{D:Nat->Bool}{listed:Array Bool}{L:Env}{s:St}
theorem Ot(m:Nat)(D:Nat->Bool){id:Nat}(K:s.q=false)(hm:P.follows .mixedOrders=true)(O:(b.kind != .early)=true)(h:AN J Q b n ds ops k cs m D ops.size (Array.replicate ops.size false) L s):JL J Q b n L ds (.code (.region id ops true)::k) cs s:=
 RN K hm λt T U=>Wi (by simpa using O) ops.size t _ T s (h T U)
theorem Vd{i:Nat}{oi:Oper}{v:Value}(hi:ops[i]? =some oi)(U:decide (i<m)=true)(Y:Dv ops m=true)(Z:Region.noSelect ops=true)(O:(!DG oi.op)=true)(aa:Iu ops listed i oi=true)(ab:Hv ops listed=true)(ac:(listed.size==ops.size)=true)(ae:(Region.ready .any ops listed).contains i=true)(ag:s.q=false)
  (hw:AM L ops oi=some true) (ah:Bg n oi.dst=true) (ai:∀ρ,EG L ρ->∀s',s'.q=false->(∀x o,(Br D s).E x=some o->s'.E x=some o)->Yl P oi ρ s' v)
  (h:AN J Q b n ds ops k cs m D fuel (A6 listed i) (Au L oi.dst v) s):AN J Q b n ds ops k cs m D (fuel+1) listed L s:=λT K=>by
 refine JA.take (w:=true) (v:=v) hi (by simpa using U) Y Z (λc aj=>by rw [aj] at O;simp [DG] at O) fuel listed T s aa ab (by simpa using ac) (by simpa using ae) ag (BX K hw) (λ_ s' ak al=>ai _ K.FU s' ak al) ?_
 exact h _ (K.put ah v)
theorem UP{i:Nat}{oi:Oper}(hi:ops[i]? =some oi)(U:decide (i<m)=true)(Y:Dv ops m=true)(Z:Region.noSelect ops=true)(K:(!DG oi.op)=true)(aa:Iu ops listed i oi=true)(ab:Hv ops listed=true)(ac:(listed.size==ops.size)=true)(ae:(Region.ready .any ops listed).contains i=true)(ag:s.q=false)
  (hw:AM L ops oi=some false) (ah:Bg n oi.dst=true)
  (h:AN J Q b n ds ops k cs m D fuel (A6 listed i) (Au L oi.dst undef) s):AN J Q b n ds ops k cs m D (fuel+1) listed L s:=λT O=>by
 refine JA.take (w:=false) (v:=undef) hi (by simpa using U) Y Z (λc ai=>by rw [ai] at K;simp [DG] at K) fuel listed T s aa ab (by simpa using ac) (by simpa using ae) ag (BX O hw) (λe=>by cases e) ?_
 exact h _ (O.put ah undef)
theorem Q7(ac:s.q=false)(ae:Region.ready .any ops listed≠ [])
  (h:∀i∈Region.ready .any ops listed,∀o,ops[i]? =some o->(!DG o.op)=true/\Bg n o.dst=true/\∃w,AM L ops o=some w/\
   (w=false->AN J Q b n ds ops k cs m D fuel (A6 listed i) (Au L o.dst undef) s)/\
   (w=true->∀ρ,EG L ρ->lp P (execOp ρ o) (Br D s) (λaa s'=>match aa with
    | .value v=>AN J Q b n ds ops k cs m D fuel (A6 listed i) (Au L o.dst v) (Ck D s s')
    | .skip=>AN J Q b n ds ops k cs m D fuel (A6 listed i) (Au L o.dst undef) (Ck D s s')
    | .enter f args=>∃R,Ez J f args (Ck D s s') R/\∀v K,R v K->K.q=false/\(∀x o,(Br D s).E x=some o->(Br D K).E x=some o)/\AN J Q b n ds ops k cs m D fuel (A6 listed i) (Au L o.dst v) K
    | _=>False) (λ_ _=>False))):
  AN J Q b n ds ops k cs m D (fuel+1) listed L s:=λT O=>by
 refine .inr ⟨ae,ac,λi hi o ag=>?_⟩
 obtain⟨ab,U,w,hw,ah,ai⟩:=h i hi o ag
 have Y:=BX O hw
 refine⟨λc aj=>by rw [aj] at ab;simp [DG] at ab,λe=>?_,λe=>?_⟩
 ·rw [e] at Y
  exact ah Y.symm _ (O.put U undef)
 ·rw [e] at Y;refine Ec _ (ai Y.symm _ O.FU) ?_ (λ_ _ h=>h);intro aa s' Z;cases aa with
  | value v=>exact Z _ (O.put U v)
  | skip=>exact Z _ (O.put U undef)
  | enter f args=>
   obtain⟨R,ak,al⟩:=Z;exact⟨R,ak,λv K am=>let ⟨a,b,c⟩:=al v K am;⟨a,b,c _ (O.put U v)⟩⟩
  | _=>exact Z.elim
theorem AN.one{i:Nat}{o:Oper}(aa:s.q=false)(Y:Region.ready .any ops listed= [i])(hi:ops[i]? =some o)(O:(!DG o.op&&Bg n o.dst)=true)(hw:AM L ops o=some true)
  (h:∀ρ,EG L ρ->lp P (execOp ρ o) (Br D s) (λab s'=>match ab with
    | .value v=>AN J Q b n ds ops k cs m D fuel (A6 listed i) (Au L o.dst v) (Ck D s s')
    | .skip=>AN J Q b n ds ops k cs m D fuel (A6 listed i) (Au L o.dst undef) (Ck D s s')
    | .enter f args=>∃R,Ez J f args (Ck D s s') R/\∀v K,R v K->K.q=false/\(∀x o,(Br D s).E x=some o->(Br D K).E x=some o)/\AN J Q b n ds ops k cs m D fuel (A6 listed i) (Au L o.dst v) K
    | _=>False) (λ_ _=>False)):
  AN J Q b n ds ops k cs m D (fuel+1) listed L s:=by
 simp only [Bool.and_eq_true] at O;refine Q7 aa (by rw [Y];simp) λj U o' Z=>?_;rw [Y] at U;simp at U;subst U;obtain rfl:o'=o:=by rw [hi] at Z;exact(Option.some.inj Z).symm
 exact⟨O.1,O.2,true,hw,λe=>(by cases e),λ_=>h⟩
theorem AN.call{i:Nat}{d:Option Tmp}{f:FuncId}{args:Array Operand}{ats:Array TypeId}{ty:TypeId}{p:String}{af:Ae_}{g:On_}{vs:Lv_}{R:Value->St->Prop}(U:s.q=false)(Y:Region.ready .any ops listed= [i])
  (Z:ops[i]? =some ⟨d,.call ⟨.value (.func f),args,ats⟩,ty,p,af,g⟩) (aa:Bg n d=true) (hw:AM L ops ⟨d,.call ⟨.value (.func f),args,ats⟩,ty,p,af,g⟩=some true) (hb:De P f=true) (ab:evs L args.toList=some vs)
  (ac:Ez J f vs.toArray s R) (h:∀v K,R v K->K.q=false/\(∀x o,(Br D s).E x=some o->(Br D K).E x=some o)/\AN J Q b n ds ops k cs m D fuel (A6 listed i) (Au L d v) K):
  AN J Q b n ds ops k cs m D (fuel+1) listed L s:=by
 refine AN.one U Y Z (by simp [DG,aa]) hw λρ O=>?_;have ae:args.map ρ=vs.toArray:=by
  rw [← Gf O ab];apply Array.ext';simp
 have ag:ρ (.func f)= .func (.func f) #[] #[]:=O _ _ rfl;simp only [execOp,resolve,bind,Sem.bind,Deferred.ofValue,ag,pure,invoke];have e: #[]++args.map ρ++ #[]=vs.toArray:=by rw [ae];simp
 rw [e];refine Io hb ?_;rw [KB];exact⟨R,ac,h⟩
theorem AN.leaf{tail:List Nat}(K:Pq m listed=true)(hgo:∀t,Region.linearise.go .any ops (fuel+1) t listed []=tail)(h:JL J Q b n L ds (.inRegion ops tail::k) cs s):AN J Q b n ds ops k cs m D (fuel+1) listed L s:=λT O=>
 .inl ⟨K,λt=>by rw [hgo t];exact h T O⟩
theorem AN.fin(K:Region.ready .any ops listed= [])(h:JL J Q b n L ds k cs s):AN J Q b n ds ops k cs m D 0 listed L s:=λT O=>⟨K,JL.done h T O⟩
theorem Yn{listed:Array Bool}{i:Nat}{tail:List Nat}{fuel:Nat}(K:Region.ready .any ops listed= [i])(h:∀t,Region.linearise.go .any ops fuel t (A6 listed i) []=tail)(t:Nat):Region.linearise.go .any ops (fuel+1) t listed []=i::tail:=by
 simp only [Region.linearise.go];change (match(Region.ready .any ops listed)[t % (Region.ready .any ops listed).length]? with
  | some i=>Region.linearise.go .any ops fuel (t / (Region.ready .any ops listed).length) (listed.setIfInBounds i true) [i]
  | none=> [].reverse)=_
 rw [K];simp only [List.length_singleton,Nat.mod_one,List.getElem?_cons_zero];rw [linearise_go_acc];have:=h (t / 1);unfold A6 at this;rw [this];rfl
theorem V8{i:Nat}{rest:List Nat}{d:Option Tmp}{f:FuncId}{args:Array Operand}{ats:Array TypeId}{ty:TypeId}{p:String}{af:Ae_}{g:On_}{vs:Lv_}{R:Value->St->Prop}
  (U:ops[i]? =some ⟨d,.call ⟨.value (.func f),args,ats⟩,ty,p,af,g⟩) (hw:AM L ops ⟨d,.call ⟨.value (.func f),args,ats⟩,ty,p,af,g⟩=some true) (K:((b.kind != .early)&&Bg n d)=true) (hb:De P f=true)
  (Y:evs L args.toList=some vs) (Z:Ez J f vs.toArray s R) (aa:∀v s',R v s'->JL J Q b n (Au L d v) ds (.inRegion ops rest::k) cs s'):
  JL J Q b n L ds (.inRegion ops (i::rest)::k) cs s:=λT O=>by
 simp only [Bool.and_eq_true] at K
 have ab:args.map (Bs T)=vs.toArray:=by
  rw [← Gf O.FU Y];apply Array.ext';simp
 refine Judge.oper U (BX O hw) (by simpa using K.1) (.inr λc ac=>by cases ac) ?_;have hd:lp P (execOp (Bs T) ⟨d,.call ⟨.value (.func f),args,ats⟩,ty,p,af,g⟩) s (upon J Q b T ds ops i rest k cs d) (K0 J Q b T ds ops i rest k cs):=by
  simp only [execOp,resolve,bind,Sem.bind,Deferred.ofValue,Bs,pure,invoke];have e: #[]++args.map (Bs T)++ #[]=vs.toArray:=by rw [ab];simp
  rw [e];refine Io hb (Z Q _ cs λv s' ae=>?_);rw [Ge (o:=⟨d,.call ⟨.value (.func f),args,ats⟩,ty,p,af,g⟩) _ _ _ _ _ U];exact aa v s' ae _ (O.put K.2 v)
 exact hd
theorem Ez.enter{f:FuncId}{fn:Func}{c:Code}{vs:Lv_}{R:Value->St->Prop}(Y:P.funcs[f]? =some fn)(hb:fn.body=some c)(ac:vs.length<=fn.ntmps)
  (h:∀(Q:Gs_) (K:Frame) (cs:Lf_),(∀v s',R v s'->J.ok Q (G (K.finish v) cs) s')->JL J Q (base f) fn.ntmps (F2 0 vs) [] [.code c] (K::cs) s):Ez J f vs.toArray s R:=λQ K cs Z=>by
 have he:Frame.enter P f vs.toArray .normal=fr (base f) (vs.toArray++Array.replicate (fn.ntmps - vs.length) undef) [] [.code c]:=by
  simp [Frame.enter,fr,Y,hb,base];rfl
 rw [he];refine h Q K cs Z _ ⟨by simp;omega,λt v aa=>?_⟩;obtain⟨_,O⟩:=Jf aa;have ab:t<vs.length:=by
  rcases Nat.lt_or_ge t vs.length with U | U
  ·exact U
  ·simp at O;have:=(List.getElem?_eq_some_iff.1 O).1;omega
 rw [Array.getD_eq_getD_getElem?,Array.getElem?_append_left (by simpa using ab)];simp at O;simp [O]
end
end Pal
namespace Pal
open Go Go.Conc
section
variable {P:Program}{J:Judge P}{Q:Gs_}{b:Frame}{n:Nat}{ds:Ld_}{ops:Ao_}{k:Li_}{cs:Lf_}{L:Env}{s:St}{E E' H:LH}{B B0:List (Nat×Obj)}
theorem RE(O:s.q=false)(h:(∃w,Fits s w)->JL J Q b n L ds k cs s):JL J Q b n L ds k cs s:=λT U=>by
 by_cases K:∃w,Fits s w
 ·exact h K T U
 ·exact J.step ⟨rfl,λw f=>absurd ⟨w,f⟩ K,λe=>by subst e;cases O⟩
theorem Qc{x:Nat}:∀{B:List (Nat×Obj)},(∃p∈B,p.1=x)->Bf B H x≠none
 | [],⟨p,K,_⟩=>by cases K
 | (c,o)::B,⟨p,K,e⟩=>by
  simp only [Bf]
  split
  ·simp
  ·rename_i O;rcases List.mem_cons.1 K with q | q
   ·subst q;exact absurd e.symm O
   ·exact Qc ⟨p,q,e⟩
theorem Nd.grow(U:Nd E H B)(hd:∀x,E' x≠none->Bf B H x=none):Nd E' H B:=by
 have key:∀{C:List (Nat×Obj)},Nd E H C->(∀p∈C,p∈B)->Nd E' H C:=by
  intro C
  induction C with
  | nil=>intro _ _;trivial
  | cons p C Y=>
   obtain⟨c,o⟩:=p;intro hC O;refine⟨?_,hC.2.1,hC.2.2.1,Y hC.2.2.2 λp K=>O p (List.mem_cons_of_mem _ K)⟩;cases Z:E' c with
   | none=>rfl
   | some u=>exact absurd (hd c (by rw [Z];simp)) (Qc ⟨(c,o),O _ (by simp),rfl⟩)
 exact key U λp K=>K
def NH(E:LH)(K:Nat)(v:Value)(n:Nat)(xs:Lv_):Prop:=
 ∃a c,v= .slice a n c/\n<=c/\xs.length=n*K/\(n=0∨∃bk off f e fr,a=some ⟨bk,off,none⟩/\E bk=some (.cells f e fr)/\∀j w,xs[j]? =some w->f[off+j]? =some w)
theorem NH.nil{K:Nat}:NH E K (.slice none 0 0) 0 []:=⟨none,0,rfl,Nat.le_refl _,by simp,.inl rfl⟩
def GS(e:TypeId)(K:Nat)(a:Option Addr)(l c:Nat)(blk:List (Nat×Obj))(xs:Lv_):Prop:=
 (a=none/\l=0/\c=0/\blk= []/\xs= [])∨∃bk f,a=some ⟨bk,0,none⟩/\blk= [(bk,.cells f e (0,0))]/\f.size=c*K/\l<=c/\xs=f.toList.take (l*K)
theorem GS.nil{e:TypeId}{K:Nat}:GS e K none 0 0 [] []:= .inl ⟨rfl,rfl,rfl,rfl,rfl⟩
theorem GS.length{e:TypeId}{K:Nat}{a:Option Addr}{l c:Nat}{blk:List (Nat×Obj)}{xs:Lv_}(h:GS e K a l c blk xs):xs.length=l*K:=by
 rcases h with⟨_,rfl,_,_,rfl⟩ | ⟨bk,f,_,_,O,U,rfl⟩
 ·simp
 ·have:l*K<=c*K:=Nat.mul_le_mul_right _ U;simp [O,Nat.min_eq_left this]
theorem TL{t e:TypeId}{v:Value}{Q:Value->St->Prop}{X:Halt->St->Prop}{z:Value}(O:P.underlying t=some (.slice e))(U:Bl P e=some v.cells.size)(Y:zeroOf P e=some z)(ae:z.cells.size=v.cells.size)(ag:0<v.cells.size)(ah:v.cells.size<=64)
  (Z:Nd E H B) (k:∀r,Nd E H (B++ [(r,.cells v.cells e (0,0))])->Q (.slice (some ⟨r,0,none⟩) 1 1) (mk E H (B++ [(r,.cells v.cells e (0,0))]))):lp P (Instr.buildSlice t 1 #[(0,v)]) (mk E H B) Q X:=by
 unfold Instr.buildSlice;refine As _ _ (Ce O ?_);refine As _ _ (ED U ?_);rw [if_neg (by omega),if_neg (by omega)];refine As (x:=zeroValue e) _ (Hm Y ?_);have aa:Instr.fill (λi=>some (i*v.cells.size,v.cells.size)) ((Array.range (1*v.cells.size)).map λi=>z.cells[i % z.cells.size]!) [(0,v)]=some v.cells:=by
  simp only [Instr.fill,Array.size_map,Array.size_range,Nat.one_mul,Nat.zero_mul];rw [if_neg (by simp)];congr 1;apply Array.ext_getElem?;intro j;have key:∀(l:Lv_) (st:Nat) (c:Av_),st+l.length<=c.size->∀j,(List.foldl (λcs (p:Value×Nat)=>cs.setIfInBounds (0+p.2) p.1) c (l.zipIdx st))[j]? =if st<=j/\j<st+l.length then l[j - st]? else c[j]? :=by
   intro l
   induction l with
   | nil=>intro st c _ j;simp;omega
   | cons x l ab=>
    intro st c ai j;simp only [List.zipIdx_cons,List.foldl_cons,List.length_cons] at*;rw [ab (st+1) _ (by simp;omega) j];simp only [Nat.zero_add];by_cases ac:j=st
    ·subst ac;rw [if_neg (by omega),if_pos (by omega)];rw [Nat.sub_self,List.getElem?_cons_zero,Array.getElem?_setIfInBounds_self_of_lt (by omega)]
    ·by_cases e2:st+1<=j/\j<st+1+l.length
     ·rw [if_pos e2,if_pos (by omega)];have:j - st=(j - (st+1))+1:=by omega
      rw [this];simp
     ·rw [if_neg e2,if_neg (by omega),Array.getElem?_setIfInBounds_ne (by omega)]
  have:=key v.cells.toList 0 ((Array.range v.cells.size).map λi=>z.cells[i % z.cells.size]!) (by simp) j;rw [← Array.foldl_toList,Array.toList_zipIdx,this];by_cases K:j<v.cells.size
  ·simp [K]
  ·simp [K]
 rw [HQ];simp only [aa];exact As _ _ (IQ Z k)
end
end Pal
namespace Pal
open Go Go.Conc
section
variable {P:Program}{J:Judge P}{Q:Gs_}{b:Frame}{n:Nat}{ds:Ld_}{ops:Ao_}{k:Li_}{cs:Lf_}{L:Env}{s:St}{E E' H:LH}{B B0:List (Nat×Obj)}
theorem Lb{ρ:Operand->Value}{d:Option Tmp}{x y:Operand}{ats:Array TypeId}{ty:TypeId}{p:String}{af:Ae_}{g:On_}:
  execOp ρ ⟨d,.call ⟨.builtin .append,#[x,y],ats⟩,ty,p,af,g⟩=(do pure (Next.value (← Builtin.append_ ats ty #[ρ x,ρ y]))):=by
 simp [execOp,resolve,invoke,builtin,bind,Sem.bind,pure]
theorem TP{ρ:Operand->Value}{d:Option Tmp}{y:Operand}{t ty:TypeId}{p:String}{af:Ae_}{g:On_}:
  execOp ρ ⟨d,.buildSlice t 1 #[(0,y)],ty,p,af,g⟩=(do pure (Next.value (← Instr.buildSlice t 1 #[(0,ρ y)]))):=by
 simp [execOp]
theorem XH{L:Env}{d1:Tmp}{w:Value}:ev (Au L (some d1) w) (.tmp d1)=some w:=by
 simp [Au,ev,look]
theorem IY{α:Type}(l r:List α)(x y:α):(l++x::r).set l.length y=l++y::r:=by simp
theorem J1{e t t1:TypeId}{Y ah l c m:Nat}{a:Option Addr}{blk:List (Nat×Obj)}{xs ys:Lv_}{i:Nat}{rest:List Nat}{d:Option Tmp}{x y:Operand}{ats:Array TypeId}{ty:TypeId}{p:String}{af:Ae_}{g:On_}{z:Value}{ax:Option Addr}{cx:Nat}{B1:List (Nat×Obj)}
  (ar:ops[i]? =some ⟨d,.call ⟨.builtin .append,#[x,y],ats⟩,ty,p,af,g⟩) (hw:AM L ops ⟨d,.call ⟨.builtin .append,#[x,y],ats⟩,ty,p,af,g⟩=some true) (au:BF b n ⟨d,.call ⟨.builtin .append,#[x,y],ats⟩,ty,p,af,g⟩=true)
  (av:ev L x=some (.slice a l c)) (aw:ev L y=some (.slice ax m cx)) (ay:ats[0]? =some t) (az:ats[1]? =some t1) (aA:P.underlying t=some (.slice e)) (aB:P.underlying t1=some (.slice e)) (aC:Bl P e=some Y) (hb:FB P e=some ah) (aD:zeroOf P e=some z) (aE:z.cells.size=Y)
  (aF:0<ah) (aG:ah<=64) (aQ:0<m) (aH:l+m<=2 ^ 40) (aI:∀w∈ys,CU w=true) (ai:GS e Y a l c blk xs) (aJ:Nd E H (B0++blk++B1)) (aK:HA (mk E H (B0++blk++B1)) (.slice ax m cx) Y ys)
  (h:∀ap ab aj,GS e Y ap (l+m) ab aj (xs++ys)->Nd E H (B0++aj)->JL J Q b n (Au L d (.slice ap (l+m) ab)) ds (.inRegion ops rest::k) cs (mk E H (B0++aj))):
  JL J Q b n L ds (.inRegion ops (i::rest)::k) cs (mk E H (B0++blk++B1)):=by
 refine JL.op ar hw au λρ aq=>?_;rw [Lb,aq x _ av,aq y _ aw];have aL:No (B0++blk++B1) B0.length e Y a l c xs:=by
  rcases ai with⟨O,aa,ac,ak,ae⟩ | ⟨bk,f,O,aa,ac,ak,ae⟩
  ·exact .inl ⟨O,aa,ac,ae⟩
  ·refine .inr ⟨bk,f,O,?_,ac,ak,ae⟩;subst aa;simp
 have hlen:=ai.length;refine As _ _ (N7 (pl:=B0.length) ay az aB aA aC hb aD aE aJ aL aK aI aF aH aG ?_ ?_ ?_)
 ·
  intro bk f K ag aR aS aM al am Z;rcases ai with⟨O,_⟩ | ⟨U,f0,O,aa,ac,ak,ae⟩
  ·rw [O] at ag;cases ag
  ·subst aa;have aN:U=bk:=by rw [O] at ag;simpa using ag
   subst aN;have aO:(B0++ [(U,Obj.cells f0 e (0,0))]++B1).set B0.length (U,.cells K e (0,0))=B0++ [(U,.cells K e (0,0))]++B1:=by
    rw [List.append_assoc,List.append_assoc];exact IY _ _ _ _
   rw [aO] at Z ⊢;have an:Nd E H (B0++ [(U,.cells K e (0,0))]):=Nd.left Z;refine JL.drop (B0++ [(U,.cells K e (0,0))]) (λp ao=>?_) Z (h a c _ (.inr ⟨U,K,O,rfl,al,aM,am.symm⟩) an);exact List.mem_iff_getElem?.1 (List.mem_append_left _ ao)
 ·intro _ hm;omega
 ·
  intro r K ab aP al am Z;have an:Nd E H (B0++ [(r,.cells K e (0,0))]):=Nd.pick Z;refine JL.drop (B0++ [(r,.cells K e (0,0))]) (λp ao=>?_) Z (h (some ⟨r,0,none⟩) ab _ (.inr ⟨r,K,rfl,rfl,al,aP,am.symm⟩) an);refine List.mem_iff_getElem?.1 ?_;rcases List.mem_append.1 ao with q | q
  ·simp [q]
  ·exact List.mem_append_right _ q
 where
  Nd.left {E H : LH} {A C : List (Nat × Obj)} (h : Nd E H (A ++ C)) : Nd E H A := by
    induction A with
    | nil => trivial
    | cons p A ih =>
      obtain ⟨c, o⟩ := p
      obtain ⟨h1, h2, h3, h4⟩ := h
      exact ⟨h1, h2, λq hq => h3 q (List.mem_append_left _ hq), ih h4⟩
  Nd.pick {E H : LH} {A C F : List (Nat × Obj)} {x : Nat × Obj} (h : Nd E H (A ++ C ++ F ++ [x])) : Nd E H (A ++ [x]) := by
    induction A with
    | nil =>
      have : ∀ (D : List (Nat × Obj)), Nd E H (D ++ [x]) -> Nd E H [x] := by
        intro D
        induction D with
        | nil => exact λh => h
        | cons p D ih => obtain ⟨c, o⟩ := p; exact λh => ih h.2.2.2
      exact this _ h
    | cons p A ih =>
      obtain ⟨c, o⟩ := p
      obtain ⟨h1, h2, h3, h4⟩ := h
      refine ⟨h1, h2, λq hq => h3 q ?_, ih h4⟩
      rcases List.mem_append.1 hq with hq | hq
      . simp [hq]
      . exact List.mem_append_right _ hq
theorem UR{K r:Nat}{e:TypeId}{v:Value}{A:List (Nat×Obj)}(O:v.cells.size=K)(U:Nd E H (A++ [(r,.cells v.cells e (0,0))])):
  HA (mk E H (A++ [(r,.cells v.cells e (0,0))])) (.slice (some ⟨r,0,none⟩) 1 1) K v.cells.toList:=by
 refine⟨.inl rfl,by simp [O],Nat.le_refl _,λj w Y=>?_⟩;simp only [Nat.zero_add];refine QV (i:=A.length) U (c:=v.cells) (e:=e) (f:=(0,0)) (by simp) ?_;simpa using Y
theorem Uo{e t t1 t2:TypeId}{K O l c:Nat}{a:Option Addr}{blk:List (Nat×Obj)}{xs:Lv_}{i ac:Nat}{rest:List Nat}{d1:Tmp}{d:Option Tmp}{x y:Operand}{ats:Array TypeId}{ty U:TypeId}{p Y:String}{af Z:Ae_}{g g':On_}{z v:Value}
  (al:ops[i]? =some ⟨some d1,.buildSlice t2 1 #[(0,y)],U,Y,Z,g'⟩) (hw:AM L ops ⟨some d1,.buildSlice t2 1 #[(0,y)],U,Y,Z,g'⟩=some true) (am:BF b n ⟨some d1,.buildSlice t2 1 #[(0,y)],U,Y,Z,g'⟩=true)
  (an:ops[ac]? =some ⟨d,.call ⟨.builtin .append,#[x,.tmp d1],ats⟩,ty,p,af,g⟩) (ao:∀w,AM (Au L (some d1) w) ops ⟨d,.call ⟨.builtin .append,#[x,.tmp d1],ats⟩,ty,p,af,g⟩=some true) (ap:BF b n ⟨d,.call ⟨.builtin .append,#[x,.tmp d1],ats⟩,ty,p,af,g⟩=true)
  (aq:∀w,ev (Au L (some d1) w) x=some (.slice a l c)) (ar:ev L y=some v) (au:ats[0]? =some t) (av:ats[1]? =some t1) (aw:P.underlying t=some (.slice e)) (ay:P.underlying t1=some (.slice e)) (az:P.underlying t2=some (.slice e)) (ae:Bl P e=some K) (hb:FB P e=some O) (ag:zeroOf P e=some z) (ah:z.cells.size=K)
  (aA:0<O) (aB:O<=64) (aa:v.cells.size=K) (aH:0<K) (aI:K<=64) (aC:l+1<=2 ^ 40) (aD:∀w∈v.cells.toList,CU w=true) (aE:GS e K a l c blk xs) (aF:Nd E H (B0++blk))
  (h:∀w ai aj ab,GS e K ai (l+1) aj ab (xs++v.cells.toList)->Nd E H (B0++ab)->JL J Q b n (Au (Au L (some d1) w) d (.slice ai (l+1) aj)) ds (.inRegion ops rest::k) cs (mk E H (B0++ab))):
  JL J Q b n L ds (.inRegion ops (i::ac::rest)::k) cs (mk E H (B0++blk)):=by
 refine JL.op al hw am λρ aG=>?_;rw [TP,aG y _ ar];refine As _ _ (TL (z:=z) (v:=v) az (by rw [aa];exact ae) ag (by rw [aa];exact ah) (by omega) (by omega) aF λr ak=>?_);refine J1 (B1:= [(r,.cells v.cells e (0,0))]) (m:=1) (cx:=1) (ax:=some ⟨r,0,none⟩) (y:= .tmp d1) (x:=x) (ys:=v.cells.toList) (l:=l) (c:=c) (a:=a) (blk:=blk) (xs:=xs) an (ao _) ap (aq _) XH au av aw ay ae hb ag ah aA aB (by omega) aC aD aE ak ?_ (h _);exact UR aa ak
theorem TX{e:TypeId}{K l c:Nat}{a:Option Addr}{blk:List (Nat×Obj)}{xs:Lv_}{todo:Li_}(aa:GS e K a l c blk xs)(U:Nd E H (B0++blk))
  (h:∀E',Le E E'->NH E' K (.slice a l c) l xs->Nd E' H B0->JL J Q b n L ds todo cs (mk E' H B0)):JL J Q b n L ds todo cs (mk E H (B0++blk)):=by
 rcases aa with⟨rfl,rfl,rfl,rfl,rfl⟩ | ⟨bk,f,rfl,rfl,ab,Y,rfl⟩
 ·simp only [List.append_nil] at U ⊢;exact h E (Le.refl _) .nil U
 ·have ac:(B0++ [(bk,Obj.cells f e (0,0))])[B0.length]? =some (bk,Obj.cells f e (0,0)):=by simp
  refine JL.freeze B0.length U ac λE' hle ae Z=>?_;have ag:(B0++ [(bk,Obj.cells f e (0,0))]).eraseIdx B0.length=B0:=by rw [List.eraseIdx_append_of_length_le (Nat.le_refl _)];simp
  rw [ag] at Z ⊢;refine h E' hle ⟨_,c,rfl,Y,?_,.inr ⟨bk,0,f,e,(0,0),rfl,ae,λj w O=>?_⟩⟩ Z
  ·have:l*K<=c*K:=Nat.mul_le_mul_right _ Y;simp [ab,Nat.min_eq_left this]
  ·rw [List.getElem?_take] at O;split at O
   ·simpa using O
   ·cases O
end
end Pal
namespace Pal
open Go Go.Conc
abbrev iV(n:Int):Value:= .int .i64 n
section
variable {P:Program}{s:St}{ρ:Operand->Value}{d:Option Tmp}{t u ty:TypeId}{x y:Operand}{p:String}{af:Ae_}{g:On_}{a c:Nat}
end
theorem Oy{P:Program}{t:TypeId}{K:TypeInfo}(h:P.types[t]? =some K):P.info? t=some K:=by
 have:=(Array.getElem?_eq_some_iff.1 h).1;unfold Tables.info?;rw [if_pos this,h]
theorem AQ{P:Program}{t:TypeId}{K:TypeInfo}(h:P.types[t]? =some K):Bl P t=some K.size:=by simp [Bl,Oy h]
theorem C4{P:Program}{t:TypeId}{K:TypeInfo}(h:P.types[t]? =some K):FB P t=some K.bytes:=by simp [FB,Oy h]
theorem CQ{P:Program}{t:TypeId}{K:TypeInfo}(h:P.types[t]? =some K):zeroOf P t=K.zero:=by simp [zeroOf,Oy h]
def Yf:TypeDesc->Bool | .struct _=>true | .array _ _=>true | _=>false
theorem Cp{P:Program}{t:TypeId}{d:TypeDesc}(h:P.underlying t=some d):C9 P t=some (Yf d):=by
 unfold C9;rw [h];cases d <;> rfl
theorem A7{P:Program}{f:FuncId}{fn:Func}(h:P.funcs[f]? =some fn)(hb:(!(fn.name== "runtime.NumGoroutine")&&fn.body.isSome)=true):De P f=true:=by
 simp only [De,h];exact hb
def SN(a:Nat):Nat->List Nat
 | 0=> []
 | n+1=>SN a n++(if a.testBit n then [n] else [])
abbrev Px(a:Nat):List Nat:=SN a 16
end Pal
namespace Pal
end Pal
namespace Pal
open Go Go.Conc
end Pal
namespace Pal
open Go Go.Conc
def At(E:LH)(bk o:Nat)(ws:Lv_):Prop:=∃f e fr,E bk=some (.cells f e fr)/\∀j w,ws[j]? =some w->f[o+j]? =some w
theorem At.Ag{E E':LH}{bk o:Nat}{ws:Lv_}(h:At E bk o ws)(hle:Le E E'):At E' bk o ws:=let ⟨f,e,fr,K,O⟩:=h;⟨f,e,fr,hle _ _ K,O⟩
theorem At.cell{E H:LH}{B:List (Nat×Obj)}{bk o j:Nat}{ws:Lv_}{w:Value}(h:At E bk o ws)(K:ws[j]? =some w):(mk E H B).cell? ⟨bk,o+j,none⟩=some w:=
 let ⟨_,_,_,O,U⟩:=h;Ux O (U j w K)
theorem At.cells{E H:LH}{B:List (Nat×Obj)}{bk o:Nat}{ws:Lv_}(h:At E bk o ws):∀j v,ws[j]? =some v->(mk E H B).cell? (Addr.add ⟨bk,o,none⟩ j)=some v:=λj v K=>by
 rw [Dm rfl];exact h.cell K
section
variable {P:Program}{J:Judge P}{Q:Gs_}{b:Frame}{n:Nat}{ds:Ld_}{ops:Ao_}{k:Li_}{cs:Lf_}{L:Env}{s:St}{E E' H:LH}{B B0:List (Nat×Obj)}
variable {d:Option Tmp}{x y:Operand}{t u ty e:TypeId}{p:String}{af:Ae_}{g:On_}{v:Value}{i:Nat}{rest:List Nat}{kd:IntKind}
theorem JL.put(h:look L i=some v)(O:JL J Q b n (Au L (some i) v) ds k cs s):JL J Q b n L ds k cs s:=λT K=>
 O T ⟨K.size,λt w e=>by
  simp only [Au,look] at e
  split at e
  ·rename_i U;subst U;cases e;exact K.at_ _ _ h
  ·exact K.at_ _ _ e⟩
theorem Lj{q:Prop} [Decidable q] (h:look L i=some (.bool (decide q)))(O:q->JL J Q b n (Au L (some i) (.bool true)) ds k cs s)(U:¬q->JL J Q b n (Au L (some i) (.bool false)) ds k cs s):JL J Q b n L ds k cs s:=by
 by_cases K:q
 ·refine JL.put (i:=i) (v:= .bool true) ?_ (O K);rw [h,decide_eq_true K]
 ·refine JL.put (i:=i) (v:= .bool false) ?_ (U K);rw [h,decide_eq_false K]
theorem J5{c:Bool}(h:look L i=some (.bool c))(K:c=true->JL J Q b n (Au L (some i) (.bool true)) ds k cs s)(O:c=false->JL J Q b n (Au L (some i) (.bool false)) ds k cs s):JL J Q b n L ds k cs s:=by
 cases c
 ·exact JL.put h (O rfl)
 ·exact JL.put h (K rfl)
end
end Pal
namespace Pal
open Go Go.Conc
theorem Gi{P:Program}{s:St}{ρ:Operand->Value}{d:Option Tmp}{t ty ft:TypeId}{x:Operand}{p:String}{af:Ae_}{g:On_}{a:Addr}{O:Array Field}{i:Nat}{K:Field}(U off:Nat)(Y:P.underlying t=some (.struct O))(Z:Bl P ft=some (U+1))(hi:O[i]? =some K)(aa:K.type=ft)(ab:K.offset=off)(ac:ρ x= .pointer (some a)):
  Yl P ⟨d,.fieldAddr t x i,ty,p,af,g⟩ ρ s (.pointer (some (a.add off))):=by
 subst aa ab;exact Yl.fieldAddr Y hi Z ac
end Pal
namespace Pal
open Go Go.Conc
section
variable {P:Program}{J:Judge P}{Q:Gs_}{b:Frame}{n:Nat}{ds:Ld_}{ops:Ao_}{k:Li_}{cs:Lf_}{L:Env}{s:St}{E E' H:LH}{B B0:List (Nat×Obj)}
variable {d:Option Tmp}{x y:Operand}{t u ty e:TypeId}{p:String}{af:Ae_}{g:On_}{v:Value}{i:Nat}{rest:List Nat}{kd:IntKind}
theorem At.GB{bk o j:Nat}{ws:Lv_}{w:Value}(h:At E bk o ws)(K:∀x o,E x=some o->s.E x=some o)(O:ws[j]? =some w):s.cell? ⟨bk,o+j,none⟩=some w:=by
 obtain⟨f,e,fr,U,Y⟩:=h;unfold St.cell? St.get;rw [K _ _ U];exact Y j w O
theorem At.SB{bk o:Nat}{ws:Lv_}(h:At E bk o ws)(K:∀x o,E x=some o->s.E x=some o):∀j v,ws[j]? =some v->s.cell? (Addr.add ⟨bk,o,none⟩ j)=some v:=λj v O=>by
 rw [Dm rfl];exact h.GB K O
end
section
variable {P:Program}{J:Judge P}{Q:Gs_}{b:Frame}{n:Nat}{ds:Ld_}{ops:Ao_}{k:Li_}{cs:Lf_}{m fuel:Nat}{listed:Array Bool}{L:Env}{E H:LH}{B:List (Nat×Obj)}
variable {d:Option Tmp}{x y:Operand}{t u ty e:TypeId}{p:String}{af:Ae_}{g:On_}{v:Value}{i:Nat}{kd:IntKind}
end
end Pal
namespace Pal
open Go Go.Conc
section
variable {P:Program}{J:Judge P}{Q:Gs_}{b:Frame}{n:Nat}{ds:Ld_}{ops:Ao_}{k:Li_}{cs:Lf_}{m fuel:Nat}{D:Nat->Bool}{listed:Array Bool}{L:Env}{s:St}{i:Nat}{v:Value}
theorem AN.put(h:look L i=some v)(O:AN J Q b n ds ops k cs m D fuel listed (Au L (some i) v) s):AN J Q b n ds ops k cs m D fuel listed L s:=λT K=>
 O T ⟨K.size,λt w e=>by
  simp only [Au,look] at e
  split at e
  ·rename_i U;subst U;cases e;exact K.at_ _ _ h
  ·exact K.at_ _ _ e⟩
theorem GW{q:Prop} [Decidable q] (h:look L i=some (.bool (decide q)))(O:q->AN J Q b n ds ops k cs m D fuel listed (Au L (some i) (.bool true)) s)(U:¬q->AN J Q b n ds ops k cs m D fuel listed (Au L (some i) (.bool false)) s):AN J Q b n ds ops k cs m D fuel listed L s:=by
 by_cases K:q
 ·refine AN.put (i:=i) (v:= .bool true) ?_ (O K);rw [h,decide_eq_true K]
 ·refine AN.put (i:=i) (v:= .bool false) ?_ (U K);rw [h,decide_eq_false K]
end
end Pal
namespace Pal
open Go Go.Conc
structure Rp (α:Type) where
 n:Nat
 r:LH->Lv_->α->Prop
 Ag:∀{E E':LH} {ws:Lv_} {x:α},Le E E'->r E ws x->r E' ws x
 len:∀{E:LH} {ws:Lv_} {x:α},r E ws x->ws.length=n
 one:∀{E:LH} {ws:Lv_} {x:α},r E ws x->∀w∈ws,CU w=true
def rK(kd:IntKind):Rp Int:=⟨1,λ_ ws x=>ws= [.int kd x],λ_ h=>h,λh=>by subst h;rfl,λh w hw=>by subst h;simp at hw;subst hw;rfl⟩
abbrev rI:Rp Int:=rK .i64
def rN(kd:IntKind):Rp Nat:=⟨1,λ_ ws x=>ws= [.int kd ((x:Nat):Int)],λ_ h=>h,λh=>by subst h;rfl,λh w hw=>by subst h;simp at hw;subst hw;rfl⟩
def rB:Rp Bool:=⟨1,λ_ ws x=>ws= [.bool x],λ_ h=>h,λh=>by subst h;rfl,λh w hw=>by subst h;simp at hw;subst hw;rfl⟩
def rP{α β:Type}(p:Rp α)(q:Rp β):Rp (α×β):=⟨p.n+q.n,λE ws x=>∃U Y,ws=U++Y/\p.r E U x.1/\q.r E Y x.2,
 λhle ⟨a,b,h,K,O⟩=>⟨a,b,h,p.Ag hle K,q.Ag hle O⟩,λ⟨a,b,h,K,O⟩=>by subst h;rw [List.length_append,p.len K,q.len O],
 λ⟨a,b,h,K,O⟩ w hw=>by
  subst h
  rcases List.mem_append.1 hw with hw | hw
  ·exact p.one K w hw
  ·exact q.one O w hw⟩
def Al{α:Type}(p:Rp α)(E:LH)(a:Option Addr)(c:Nat)(xs:List α):Prop:=
 xs.length<=c/\((xs= []/\∀ad:Addr,a=some ad->ad.spot=none∨c=0)∨∃bk off,a=some ⟨bk,off,none⟩/\∀(i:Nat) x,xs[i]? =some x->∃ws,p.r E ws x/\At E bk (off+i*p.n) ws)
theorem Al.Ag{α:Type}{p:Rp α}{E E':LH}{a:Option Addr}{c:Nat}{xs:List α}(h:Al p E a c xs)(hle:Le E E'):Al p E' a c xs:=
 ⟨h.1,h.2.imp id λ⟨bk,off,K,O⟩=>⟨bk,off,K,λi x U=>let ⟨ws,Y,Z⟩:=O i x U;⟨ws,p.Ag hle Y,Z.Ag hle⟩⟩⟩
theorem Al.nil{α:Type}{p:Rp α}{E:LH}{c:Nat}:Al p E none c []:=⟨Nat.zero_le _,.inl ⟨rfl,λ_ h=>by cases h⟩⟩
def rL{α:Type}(p:Rp α):Rp (List α):=⟨1,λE ws xs=>∃a c,ws= [.slice a xs.length c]/\Al p E a c xs,
 λhle ⟨a,c,h,K⟩=>⟨a,c,h,K.Ag hle⟩,λ⟨a,c,h,K⟩=>by subst h;rfl,λ⟨a,c,h,K⟩ w hw=>by subst h;simp at hw;subst hw;rfl⟩
def rV:Rp Value:=⟨1,λ_ ws x=>ws= [x]/\CU x=true,λ_ h=>h,λh=>by rw [h.1];rfl,λh w hw=>by rw [h.1] at hw;simp at hw;subst hw;exact h.2⟩
def rA{α:Type}(k:Nat)(p:Rp α):Rp (List α):=⟨k*p.n,λE ws xs=>xs.length=k/\∃wss:List (Lv_),ws=wss.flatten/\wss.length=k/\∀(i:Nat) x us,xs[i]? =some x->wss[i]? =some us->p.r E us x,
 λhle ⟨U,wss,h,K,O⟩=>⟨U,wss,h,K,λi x us a b=>p.Ag hle (O i x us a b)⟩,
 λ{E ws xs} ⟨U,wss,h,K,O⟩=>by
  subst h
  have:∀(wss:List (Lv_)) (xs:List α),xs.length=wss.length->(∀(i:Nat) x us,xs[i]? =some x->wss[i]? =some us->p.r E us x)->wss.flatten.length=wss.length*p.n:=by
   intro wss
   induction wss with
   | nil=>intro xs _ _;simp
   | cons us wss Z=>
    intro xs Y h
    cases xs with
    | nil=>simp at Y
    | cons x xs=>
     rw [List.flatten_cons,List.length_append,p.len (h 0 x us rfl rfl),Z xs (by simpa using Y) (λi y u a b=>h (i+1) y u a b),List.length_cons,Nat.succ_mul,Nat.add_comm]
  rw [this wss xs (by omega) O,K],
 λ{E ws xs} ⟨U,wss,h,K,O⟩ w hw=>by
  subst h
  obtain⟨us,aa,hw⟩:=List.mem_flatten.1 hw
  obtain⟨i,hi⟩:=List.mem_iff_getElem?.1 aa
  have ab:i<xs.length:=by rw [U,← K];exact(List.getElem?_eq_some_iff.1 hi).1
  exact p.one (O i _ us (List.getElem?_eq_getElem ab) hi) w hw⟩
def ix{α:Type}(xs:List α)(i:Int):Option α:=if 0<=i then xs[i.toNat]? else none
theorem FR{α:Type}{xs:List α}{i:Int}{x:α}(h:ix xs i=some x):∃m:Nat,i=m/\xs[m]? =some x:=by
 unfold ix at h;split at h
 ·exact⟨i.toNat,by omega,h⟩
 ·cases h
def Av(x:Int):Option Int:=if -9223372036854775808<=x/\x<=9223372036854775807 then some x else none
theorem KC{x y:Int}(h:Av x=some y):y=x/\ -9223372036854775808<=x/\x<=9223372036854775807:=by
 unfold Av at h;split at h
 ·rename_i hb;exact⟨(Option.some.inj h).symm,hb⟩
 ·cases h
theorem bind_some{α β:Type}{o:Option α}{f:α->Option β}{r:β}(h:o.bind f=some r):∃x,o=some x/\f x=some r:=by
 cases o with
 | none=>cases h
 | some x=>exact⟨x,rfl,h⟩
inductive Bj (S A:Type) where
 | more (s:S)
 | done (a:A)
def iter{S A:Type}(body:S->Option (Bj S A)):Nat->S->Option A
 | 0,_=>none
 | f+1,s=>match body s with
  | none=>none
  | some (.done a)=>some a
  | some (.more s')=>iter body f s'
theorem Qm{S A:Type}{body:S->Option (Bj S A)}{f:Nat}{s:S}{a:A}(h:iter body (f+1) s=some a):∃st,body s=some st:=by
 simp only [iter] at h;cases hb:body s with
 | none=>rw [hb] at h;cases h
 | some st=>exact⟨st,rfl⟩
theorem Qq{S A:Type}{body:S->Option (Bj S A)}{f:Nat}{s:S}{a K:A}(h:iter body (f+1) s=some a)(hb:body s=some (.done K)):K=a:=by
 simp only [iter,hb] at h;exact Option.some.inj h
theorem Ql{S A:Type}{body:S->Option (Bj S A)}{f:Nat}{s s':S}{a:A}(h:iter body (f+1) s=some a)(hb:body s=some (.more s')):iter body f s'=some a:=by
 simp only [iter,hb] at h;exact h
abbrev Seg:=List (Nat×Obj)
def Ak(E H:LH)(S:List Seg):St:=mk E H S.flatten
def Aq(E H:LH)(S:List Seg):Prop:=Nd E H S.flatten
theorem Nd.mem{E H:LH}:∀{B:List (Nat×Obj)} {b:Nat} {o:Obj},Nd E H B->(b,o)∈B->∃i:Nat,B[i]? =some (b,o):=λ_ h=>List.mem_iff_getElem?.1 h
theorem Nd.iff{E H:LH}:∀{B:List (Nat×Obj)},Nd E H B↔(B.map (·.1)).Nodup/\∀p∈B,E p.1=none/\H p.1=none
 | []=>by simp [Nd]
 | (b,o)::B=>by
  simp only [Nd,List.map_cons,List.nodup_cons,List.mem_cons,forall_eq_or_imp,Nd.iff (B:=B),List.mem_map,not_exists,not_and]
  constructor
  ·rintro⟨K,O,U,Y,Z⟩;exact⟨⟨U,Y⟩,⟨K,O⟩,Z⟩
  ·rintro⟨⟨U,Y⟩,⟨K,O⟩,Z⟩;exact⟨K,O,U,Y,Z⟩
theorem Nd.perm{E H:LH}{B B':List (Nat×Obj)}(h:Nd E H B)(K:B.Perm B'):Nd E H B':=by
 rw [Nd.iff] at h ⊢;exact⟨(K.map _).nodup_iff.1 h.1,λp O=>h.2 p (K.mem_iff.2 O)⟩
theorem Qf{E H:LH}{B B':List (Nat×Obj)}(h:Nd E H B)(K:B.Perm B'):Bf B H=Bf B' H:=by
 funext x;by_cases O:∃p∈B,p.1=x
 ·obtain⟨⟨b,o⟩,hm,rfl⟩:=O;obtain⟨i,hi⟩:=h.mem hm;obtain⟨j,U⟩:=(h.perm K).mem (K.mem_iff.1 hm);rw [IV h hi,IV (h.perm K) U]
 ·have key:∀{C:List (Nat×Obj)},(∀p∈C,p.1≠x)->Bf C H x=H x:=by
   intro C
   induction C with
   | nil=>intro _;rfl
   | cons p C Y=>
    intro hC;obtain⟨c,u⟩:=p;have Z:x≠c:=λe=>hC (c,u) (by simp) e.symm;simp only [Bf,if_neg Z];exact Y λp K=>hC p (List.mem_cons_of_mem _ K)
  rw [key λp K e=>O ⟨p,K,e⟩,key λp aa e=>O ⟨p,K.mem_iff.2 aa,e⟩]
theorem EV{E H:LH}{B B':List (Nat×Obj)}(h:Nd E H B)(K:B.Perm B'):mk E H B=mk E H B':=by unfold mk;rw [Qf h K]
theorem DZ{S:List Seg}{j:Nat}{seg seg':Seg}(h:S[j]? =some seg):S.flatten.Perm ((S.set j []).flatten++seg)/\(S.set j seg').flatten.Perm ((S.set j []).flatten++seg'):=by
 induction S generalizing j with
 | nil=>simp at h
 | cons x S K=>
  cases j with
  | zero=>
   simp at h;subst h;simp only [List.set_cons_zero,List.flatten_cons,List.nil_append];exact⟨List.perm_append_comm,List.perm_append_comm⟩
  | succ j=>
   simp at h;obtain⟨O,U⟩:=K h;simp only [List.set_cons_succ,List.flatten_cons,List.append_assoc];exact⟨O.append_left x,U.append_left x⟩
theorem G0{E H:LH}{S:List Seg}{j:Nat}{seg:Seg}(K:Aq E H S)(h:S[j]? =some seg):Ak E H S=mk E H ((S.set j []).flatten++seg)/\Nd E H ((S.set j []).flatten++seg):=
 ⟨EV K (DZ (seg':=seg) h).1,Nd.perm K (DZ (seg':=seg) h).1⟩
theorem I0{E H:LH}{S:List Seg}{j:Nat}{seg seg':Seg}(h:S[j]? =some seg)(K:Nd E H ((S.set j []).flatten++seg')):mk E H ((S.set j []).flatten++seg')=Ak E H (S.set j seg')/\Aq E H (S.set j seg'):=
 ⟨EV K (DZ h).2.symm,Nd.perm K (DZ h).2.symm⟩
theorem GY(S:List Seg)(seg:Seg):(S++ [seg]).flatten=S.flatten++seg:=by simp
theorem Fv{E H:LH}{S:List Seg}{seg:Seg}(K:Nd E H (S.flatten++seg)):mk E H (S.flatten++seg)=Ak E H (S++ [seg])/\Aq E H (S++ [seg]):=by
 unfold Ak Aq;rw [GY];exact⟨rfl,K⟩
theorem Dw{E H:LH}{S:List Seg}{j i bk:Nat}{seg:Seg}{o:Obj}(K:Aq E H S)(O:S[j]? =some seg)(hi:seg[i]? =some (bk,o)):(Ak E H S).get bk=some o:=by
 have hm:(bk,o)∈S.flatten:=List.mem_flatten.2 ⟨seg,List.mem_of_getElem? O,List.mem_of_getElem? hi⟩;obtain⟨Y,U⟩:=K.mem hm;exact N3 K U
theorem BL{E H:LH}{S:List Seg}{j bk off:Nat}{c:Av_}{e:TypeId}{f:Nat×Nat}{v:Value}{seg:Seg}(K:Aq E H S)(O:S[j]? =some ((bk,.cells c e f)::seg))(U:c[off]? =some v):(Ak E H S).cell? ⟨bk,off,none⟩=some v:=by
 unfold St.cell?;rw [Dw (i:=0) K O rfl];exact U
theorem Ur{E H:LH}{S:List Seg}{j bk off:Nat}{c:Av_}{e:TypeId}{f:Nat×Nat}{vs:Lv_}{seg:Seg}(K:Aq E H S)(O:S[j]? =some ((bk,.cells c e f)::seg))(U:∀i v,vs[i]? =some v->c[off+i]? =some v):∀i v,vs[i]? =some v->(Ak E H S).cell? (Addr.add ⟨bk,off,none⟩ i)=some v:=λi v hi=>by
 rw [Dm rfl];exact BL K O (U i v hi)
def OL{α:Type}(e:TypeId)(p:Rp α)(E:LH)(a:Option Addr)(c:Nat)(seg:Seg)(xs:List α):Prop:=
 ∃wss:List (Lv_),GS e p.n a xs.length c seg wss.flatten/\wss.length=xs.length/\∀(i:Nat) x ws,xs[i]? =some x->wss[i]? =some ws->p.r E ws x
theorem OL.Ag{α:Type}{e:TypeId}{p:Rp α}{E E':LH}{a:Option Addr}{c:Nat}{seg:Seg}{xs:List α}(h:OL e p E a c seg xs)(hle:Le E E'):OL e p E' a c seg xs:=
 let ⟨wss,K,O,U⟩:=h;⟨wss,K,O,λi x ws Y hw=>p.Ag hle (U i x ws Y hw)⟩
theorem OL.nil{α:Type}{e:TypeId}{p:Rp α}{E:LH}:OL e p E none 0 [] []:=⟨[],GS.nil,rfl,λi x ws K=>by simp at K⟩
theorem HW{α:Type}{p:Rp α}{E:LH}{wss:List (Lv_)}{xs:List α}(K:wss.length=xs.length)(h:∀(i:Nat) x ws,xs[i]? =some x->wss[i]? =some ws->p.r E ws x):∀ws∈wss,ws.length=p.n:=λws hw=>by
 obtain⟨i,hi⟩:=List.mem_iff_getElem?.1 hw
 have O:i<xs.length:=by rw [← K];exact(List.getElem?_eq_some_iff.1 hi).1
 exact p.len (h i _ ws (List.getElem?_eq_getElem O) hi)
theorem J3{α:Type}{n:Nat}:∀{wss:List (List α)},(∀ws∈wss,ws.length=n)->∀{i:Nat} {ws:List α},wss[i]? =some ws->∀j w,ws[j]? =some w->wss.flatten[i*n+j]? =some w
 | [],_,_,_,h,_,_,_=>by simp at h
 | us::wss,O,0,ws,h,j,w,K=>by
  simp at h;subst h
  have:j<us.length:=(List.getElem?_eq_some_iff.1 K).1
  simp only [List.flatten_cons,Nat.zero_mul,Nat.zero_add]
  rw [List.getElem?_append_left this];exact K
 | us::wss,O,i+1,ws,h,j,w,K=>by
  simp at h
  have hu:us.length=n:=O us (by simp)
  simp only [List.flatten_cons]
  rw [List.getElem?_append_right (by rw [hu,Nat.succ_mul];omega)]
  have e:(i+1)*n+j - us.length=i*n+j:=by rw [hu,Nat.succ_mul];omega
  rw [e];exact J3 (λws hw=>O ws (List.mem_cons_of_mem _ hw)) h j w K
end Pal
namespace Pal
open Go Go.Conc
section
variable {P:Program}{s:St}{ρ:Operand->Value}{x y z:Operand}{d:Option Tmp}{t u ty e:TypeId}{p:String}{af:Ae_}{g:On_}{v:Value}{kd kd':IntKind}{m m':Int}{a b:Nat}
theorem PE{a:Nat}:IntKind.u64.wrap (a:Int)=((a % 2 ^ 64:Nat):Int):=by
 simp only [IntKind.wrap,IntKind.bits,IntKind.signed];simp
theorem Xi(K:ρ x= .int .u64 (a:Int))(O:ρ y= .int .u64 (b:Int)):Yl P ⟨d,.binOp .add t x y u,ty,p,af,g⟩ ρ s (.int .u64 (((a+b) % 2 ^ 64:Nat):Int)):=by
 have h:=Yl.add (P:=P) (s:=s) (d:=d) (t:=t) (u:=u) (ty:=ty) (p:=p) (af:=af) (g:=g) K O;rw [show((a:Int)+(b:Int))=((a+b:Nat):Int) by omega,PE] at h;exact h
theorem MG(K:ρ x= .int .u64 (a:Int))(O:ρ y= .int .u64 (b:Int)):Yl P ⟨d,.binOp .mul t x y u,ty,p,af,g⟩ ρ s (.int .u64 (((a*b) % 2 ^ 64:Nat):Int)):=by
 have h:=Yl.mul (P:=P) (s:=s) (d:=d) (t:=t) (u:=u) (ty:=ty) (p:=p) (af:=af) (g:=g) K O;rw [show((a:Int)*(b:Int))=((a*b:Nat):Int) by rw [Int.natCast_mul],PE] at h;exact h
theorem MK(K:ρ x= .int .u64 (a:Int))(O:ρ y= .int .u64 (b:Int)):Yl P ⟨d,.binOp .xor t x y u,ty,p,af,g⟩ ρ s (.int .u64 (((a ^^^ b) % 2 ^ 64:Nat):Int)):=by
 have h:=Yl.xor (P:=P) (s:=s) (d:=d) (t:=t) (u:=u) (ty:=ty) (p:=p) (af:=af) (g:=g) K O;have e:(BitVec.ofInt IntKind.u64.bits (a:Int) ^^^ BitVec.ofInt IntKind.u64.bits (b:Int)).toNat=(a ^^^ b) % 2 ^ 64:=by
  rw [Nat.xor_mod_two_pow];rw [BitVec.ofInt_natCast,BitVec.ofInt_natCast];show(BitVec.ofNat 64 a ^^^ BitVec.ofNat 64 b).toNat=_;rw [BitVec.toNat_xor,BitVec.toNat_ofNat,BitVec.toNat_ofNat]
 rw [e,PE,Nat.mod_mod] at h;exact h
theorem Xk(K:ρ x= .int .u64 (a:Int))(O:ρ y= .int .u64 (b:Int))(U:b≠0):Yl P ⟨d,.binOp .rem t x y u,ty,p,af,g⟩ ρ s (.int .u64 ((a % b:Nat):Int)):=by
 have h:=Yl.rem (P:=P) (s:=s) (d:=d) (t:=t) (u:=u) (ty:=ty) (p:=p) (af:=af) (g:=g) K O (by omega);rw [show(a:Int).tmod (b:Int)=((a % b:Nat):Int) from rfl] at h;exact h
theorem KL(c:Nat)(K:ρ x= .int .u64 (a:Int))(O:ρ y= .int .u64 (c:Int))(U:c<=64):Yl P ⟨d,.binOp .shr t x y u,ty,p,af,g⟩ ρ s (.int .u64 ((a>>>c:Nat):Int)):=by
 have h:=Yl.shr (P:=P) (s:=s) (d:=d) (t:=t) (u:=u) (ty:=ty) (p:=p) (af:=af) (g:=g) K O (by omega);have e:min (c:Int).toNat IntKind.u64.bits=c:=by simp [IntKind.bits];omega
 rw [e,Int.fdiv_eq_ediv_of_nonneg _ (Int.pow_nonneg (by decide))] at h;have e2:(a:Int) / 2 ^ c=((a>>>c:Nat):Int):=by rw [Nat.shiftRight_eq_div_pow,Int.natCast_ediv];rfl
 rw [e2] at h;exact h
def CN(m:Int):Nat:=(m % 2 ^ 64).toNat
def L2(a:Nat):Int:=IntKind.i64.wrap (a:Int)
theorem Yl.CN(K:P.underlying t=some (.int .i64))(hu:P.underlying u=some (.int .u64))(O:ρ x=iV m):Yl P ⟨d,.convert t u x,ty,p,af,g⟩ ρ s (.int .u64 ((CN m:Nat):Int)):=by
 have h:=EU (P:=P) (s:=s) (d:=d) (ty:=ty) (p:=p) (af:=af) (g:=g) K hu O
 have e:IntKind.u64.wrap m=((Pal.CN m:Nat):Int):=by
  unfold Pal.CN;simp only [IntKind.wrap,IntKind.bits,IntKind.signed];simp;omega
 rw [e] at h;exact h
theorem XN(K:P.underlying t=some (.int .u64))(hu:P.underlying u=some (.int .i64))(O:ρ x= .int .u64 (a:Int)):Yl P ⟨d,.convert t u x,ty,p,af,g⟩ ρ s (iV (L2 a)):=
 EU (P:=P) (s:=s) (d:=d) (ty:=ty) (p:=p) (af:=af) (g:=g) K hu O
theorem Ff{r:Int}(K:ρ x=iV m)(O:ρ y=iV m')(h:Av (m+m')=some r):Yl P ⟨d,.binOp .add t x y u,ty,p,af,g⟩ ρ s (iV r):=by
 obtain⟨rfl,hb⟩:=KC h;exact W0 K O hb
theorem Dz{r:Int}(K:ρ x=iV m)(O:ρ y=iV m')(h:Av (m - m')=some r):Yl P ⟨d,.binOp .sub t x y u,ty,p,af,g⟩ ρ s (iV r):=by
 obtain⟨rfl,hb⟩:=KC h;exact W7 K O hb
theorem MH{r:Int}(K:ρ x=iV m)(O:ρ y=iV m')(h:Av (m*m')=some r):Yl P ⟨d,.binOp .mul t x y u,ty,p,af,g⟩ ρ s (iV r):=by
 obtain⟨rfl,hb⟩:=KC h;exact WJ K O hb
theorem Hs{r:Int}(K:ρ x=iV m)(h:Av (-m)=some r):Yl P ⟨d,.unOp .neg t x,ty,p,af,g⟩ ρ s (iV r):=by
 obtain⟨rfl,hb⟩:=KC h;exact Xm K hb
theorem Hq(K:ρ x= .int kd m)(O:ρ y= .int kd m'):Yl P ⟨d,.binOp .neq t x y u,ty,p,af,g⟩ ρ s (.bool (decide (m≠m'))):=by
 have h:=Yl.neq (P:=P) (s:=s) (d:=d) (t:=t) (u:=u) (ty:=ty) (p:=p) (af:=af) (g:=g) K O;simpa using h
theorem KO{q:Prop} [Decidable q] (K:ρ x= .bool (decide q)):Yl P ⟨d,.unOp .not t x,ty,p,af,g⟩ ρ s (.bool (decide (¬q))):=by
 have h:=Yl.not (P:=P) (s:=s) (d:=d) (t:=t) (ty:=ty) (p:=p) (af:=af) (g:=g) K;simpa using h
theorem Oa{K:Array (Nat×Operand)}:execOp ρ ⟨d,.build t K,ty,p,af,g⟩=(do pure (Next.value (← Instr.build t (K.map λ(j,x)=>(j,ρ x))))):=by
 simp only [execOp]
theorem Yl.build{z:Value}{O:Array Field}{K:Array (Nat×Operand)}{vs:List (Nat×Value)}{places:Array (Nat×Nat)}{cells:Av_}(Z:zeroOf P t=some z)(aa:P.underlying t=some (.struct O))(ab:O.toList.mapM (λf=>(Bl P f.type).map λn=>(f.offset,n))=some places.toList)
  (ac:K.toList.map (λ(j,x)=>(j,ρ x))=vs) (ae:Instr.fill (places[·]?) z.cells vs=some cells):Yl P ⟨d,.build t K,ty,p,af,g⟩ ρ s (.agg cells):=by
 refine Ft Oa ?_;unfold Instr.build;refine As (x:=zeroValue t) _ (Hm Z ?_);refine As _ _ (Ce aa ?_);simp only;have key:∀(l:List Field) (acc:List (Nat×Nat)) {Q:List (Nat×Nat)->St->Prop} {X:Halt->St->Prop} (K:List (Nat×Nat)),l.mapM (λf=>(Bl P f.type).map λn=>(f.offset,n))=some K->Q (acc.reverse++K) s->lp P (List.mapM.loop (m:=Sem) (λf=>do pure (f.offset,← Go.sizeOf f.type)) l acc) s Q X:=by
  intro l
  induction l with
  | nil=>
   intro acc Q X K h k;simp at h;subst h;simp only [List.append_nil] at k;exact k
  | cons f l ag=>
   intro acc Q X K h k;simp only [List.mapM_cons,bind] at h;cases U:Bl P f.type with
   | none=>rw [U] at h;simp at h
   | some n=>
    rw [U] at h;simp only [Option.map_some,Option.bind_some] at h;obtain⟨ah,ai,Y⟩:=bind_some h;simp at Y;subst Y;have:=ag ((f.offset,n)::acc) (Q:=Q) (X:=X) ah ai (by simpa using k);simp only [List.mapM.loop];exact As _ _ (As (x:=Go.sizeOf f.type) _ (ED U this))
 have e:(K.map λ(j,x)=>(j,ρ x)).toList=vs:=by rw [← ac,Array.toList_map]
 refine As _ _ ?_;rw [Array.mapM_eq_mapM_toList];refine As (x:=List.mapM.loop (m:=Sem) (λf=>do pure (f.offset,← Go.sizeOf f.type)) O.toList []) (f:=λr=>pure r.toArray) (key O.toList [] places.toList ab ?_)
 simp only [List.reverse_nil,List.nil_append,lp,pure];rw [e,ae];exact⟨rfl,rfl⟩
end
end Pal
namespace Pal
open Go Go.Conc
section
variable {P:Program}{J:Judge P}{Q:Gs_}{b:Frame}{n:Nat}{ds:Ld_}{ops:Ao_}{k:Li_}{cs:Lf_}{L:Env}{s:St}{E E' H:LH}{S:List Seg}
variable {d:Option Tmp}{x y:Operand}{t u ty e:TypeId}{p:String}{af:Ae_}{g:On_}{v:Value}{i:Nat}{rest:List Nat}{kd:IntKind}
theorem JS.box(O:ops[i]? =some ⟨d,.box e x,ty,p,af,g⟩)(hw:AM L ops ⟨d,.box e x,ty,p,af,g⟩=some true)(U:BF b n ⟨d,.box e x,ty,p,af,g⟩=true)(Y:Aq E H S)(Z:ev L x=some v)
  (h:∀r,Aq E H (S++ [[(r,.cells v.cells e (0,0))]])->JL J Q b n (Au L d (.pointer (some ⟨r,0,none⟩))) ds (.inRegion ops rest::k) cs (Ak E H (S++ [[(r,.cells v.cells e (0,0))]]))):
  JL J Q b n L ds (.inRegion ops (i::rest)::k) cs (Ak E H S):=
 JL.box O hw U Y Z λr K=>by rw [(Fv K).1];exact h r (Fv K).2
theorem JS.alloc{z:Value}(O:ops[i]? =some ⟨d,.alloc e,ty,p,af,g⟩)(hw:AM L ops ⟨d,.alloc e,ty,p,af,g⟩=some true)(U:BF b n ⟨d,.alloc e,ty,p,af,g⟩=true)(Y:Aq E H S)(Z:zeroOf P e=some z)
  (h:∀r,Aq E H (S++ [[(r,.cells z.cells e (0,0))]])->JL J Q b n (Au L d (.pointer (some ⟨r,0,none⟩))) ds (.inRegion ops rest::k) cs (Ak E H (S++ [[(r,.cells z.cells e (0,0))]]))):
  JL J Q b n L ds (.inRegion ops (i::rest)::k) cs (Ak E H S):=
 JL.alloc O hw U Y Z λr K=>by rw [(Fv K).1];exact h r (Fv K).2
theorem JS.store{bk off:Nat}{c:Av_}(j:Nat)(U:ops[i]? =some ⟨d,.store t x y,ty,p,af,g⟩)(hw:AM L ops ⟨d,.store t x y,ty,p,af,g⟩=some true)(Y:BF b n ⟨d,.store t x y,ty,p,af,g⟩=true)(Z:Aq E H S)
  (aa:ev L x=some (.pointer (some ⟨bk,off,none⟩))) (ab:ev L y=some v) (ac:Bl P t=some v.cells.size) (ae:∀u∈v.cells.toList,CU u=true) (K:S[j]? =some [(bk,.cells c e (0,0))]) (hle:off+v.cells.size<=c.size)
  (h:Aq E H (S.set j [(bk,.cells (Bb c off v.cells.toList) e (0,0))])->JL J Q b n (Au L d undef) ds (.inRegion ops rest::k) cs (Ak E H (S.set j [(bk,.cells (Bb c off v.cells.toList) e (0,0))]))):
  JL J Q b n L ds (.inRegion ops (i::rest)::k) cs (Ak E H S):=by
 obtain⟨ag,ah⟩:=G0 Z K;rw [ag];refine JL.store (S.set j []).flatten.length U hw Y ah aa ab ac ae (c:=c) (e:=e) (by simp) hle λO=>?_;have ai:((S.set j []).flatten++ [(bk,Obj.cells c e (0,0))]).set (S.set j []).flatten.length (bk,.cells (Bb c off v.cells.toList) e (0,0))=(S.set j []).flatten++ [(bk,.cells (Bb c off v.cells.toList) e (0,0))]:=IY _ _ _ _;rw [ai] at O ⊢;obtain⟨aj,ak⟩:=I0 K O;rw [aj];exact h ak
theorem JS.drop{todo:Li_}{seg:Seg}(j:Nat)(Y:Aq E H S)(K:S[j]? =some seg)(h:Aq E H (S.set j [])->JL J Q b n L ds todo cs (Ak E H (S.set j []))):JL J Q b n L ds todo cs (Ak E H S):=by
 obtain⟨Z,O⟩:=G0 Y K;rw [Z];have aa:Nd E H ((S.set j []).flatten++ []):=by rw [List.append_nil];exact J1.Nd.left O
 obtain⟨U,ab⟩:=I0 (seg':= []) K aa;refine JL.drop (S.set j []).flatten (λq ac=>List.mem_iff_getElem?.1 (List.mem_append_left _ ac)) O ?_;have ae:(S.set j []).flatten++ []=(S.set j []).flatten:=List.append_nil _;rw [ae] at U;rw [U];exact h ab
theorem CP{todo:Li_}{bk:Nat}{c:Av_}{f:Nat×Nat}(j:Nat)(O:Aq E H S)(U:S[j]? =some [(bk,.cells c e f)])
  (h:∀E',Le E E'->At E' bk 0 c.toList->Aq E' H (S.set j [])->JL J Q b n L ds todo cs (Ak E' H (S.set j []))):JL J Q b n L ds todo cs (Ak E H S):=by
 obtain⟨Y,Z⟩:=G0 O U;rw [Y];have aa:((S.set j []).flatten++ [(bk,Obj.cells c e f)])[(S.set j []).flatten.length]? =some (bk,Obj.cells c e f):=by simp
 refine JL.freeze (S.set j []).flatten.length Z aa λE' hle ab K=>?_;have ac:((S.set j []).flatten++ [(bk,Obj.cells c e f)]).eraseIdx (S.set j []).flatten.length=(S.set j []).flatten:=by rw [List.eraseIdx_append_of_length_le (Nat.le_refl _)];simp
 rw [ac] at K ⊢;exact h E' hle ⟨_,_,_,ab,λi w hi=>by simpa using hi⟩ K
theorem B8{α:Type}{pp:Rp α}{todo:Li_}{a:Option Addr}{c:Nat}{seg:Seg}{xs:List α}(j:Nat)(U:OL e pp E a c seg xs)(ae:Aq E H S)(ag:S[j]? =some seg)
  (h:∀E',Le E E'->Al pp E' a c xs->Aq E' H (S.set j [])->JL J Q b n L ds todo cs (Ak E' H (S.set j []))):JL J Q b n L ds todo cs (Ak E H S):=by
 obtain⟨wss,U,aa,ab⟩:=U;have ah:∀ad:Addr,a=some ad->ad.spot=none:=λad K=>by
  rcases U with⟨O,_⟩ | ⟨bk,f,O,_⟩
  ·rw [O] at K;cases K
  ·rw [O] at K;cases K;rfl
 obtain⟨O,ai⟩:=G0 ae ag;rw [O];refine TX U ai λE' hle aj ak=>h E' hle ?_ ak;obtain⟨al,am,Y,an,au,Z⟩:=aj;obtain⟨rfl,-,rfl⟩:a=al/\xs.length=xs.length/\c=am:=by
  simp only [Value.slice.injEq] at Y;exact⟨Y.1,rfl,Y.2.2⟩
 refine⟨an,?_⟩;rcases Z with Z | ⟨bk,off,f,ao,fr,ap,g2,aq⟩
 ·exact .inl ⟨List.eq_nil_of_length_eq_zero Z,λad K=> .inl (ah ad K)⟩
 ·refine .inr ⟨bk,off,ap,λi x ac=>?_⟩;have ar:i<wss.length:=by rw [aa];exact(List.getElem?_eq_some_iff.1 ac).1
  have hw:=List.getElem?_eq_getElem ar;refine⟨wss[i],pp.Ag hle (ab i x _ ac hw),f,ao,fr,g2,λm w hm=>?_⟩;rw [Nat.add_assoc];exact aq _ w (J3 (HW aa ab) hw m w hm)
theorem TY{α:Type}{pp:Rp α}{wss:List (Lv_)}{xs:List α}{x:α}{ws:Lv_}(O:wss.length=xs.length)(h:∀(i:Nat) x ws,xs[i]? =some x->wss[i]? =some ws->pp.r E ws x)(U:pp.r E ws x):
  ∀(i:Nat) y us,(xs++ [x])[i]? =some y->(wss++ [ws])[i]? =some us->pp.r E us y:=by
 intro i y us K hu;rcases Nat.lt_or_ge i xs.length with hi | hi
 ·rw [List.getElem?_append_left hi] at K;rw [List.getElem?_append_left (by omega)] at hu;exact h i y us K hu
 ·rw [List.getElem?_append_right hi] at K;rw [List.getElem?_append_right (by omega),O] at hu;cases hm:i - xs.length with
  | zero=>rw [hm] at K hu;simp at K hu;subst K hu;exact U
  | succ m=>rw [hm] at K;simp at K
theorem Um{α:Type}{pp:Rp α}{t1 t2:TypeId}{U c:Nat}{a:Option Addr}{seg:Seg}{xs:List α}{xv:α}{ae:Nat}{d1:Tmp}{ats:Array TypeId}{Y:TypeId}{Z:String}{aa:Ae_}{g':On_}{z:Value}(j:Nat)
  (ai:ops[i]? =some ⟨some d1,.buildSlice t2 1 #[(0,y)],Y,Z,aa,g'⟩) (hw:AM L ops ⟨some d1,.buildSlice t2 1 #[(0,y)],Y,Z,aa,g'⟩=some true) (aj:BF b n ⟨some d1,.buildSlice t2 1 #[(0,y)],Y,Z,aa,g'⟩=true)
  (ak:ops[ae]? =some ⟨d,.call ⟨.builtin .append,#[x,.tmp d1],ats⟩,ty,p,af,g⟩) (al:∀w,AM (Au L (some d1) w) ops ⟨d,.call ⟨.builtin .append,#[x,.tmp d1],ats⟩,ty,p,af,g⟩=some true) (am:BF b n ⟨d,.call ⟨.builtin .append,#[x,.tmp d1],ats⟩,ty,p,af,g⟩=true)
  (an:∀w,ev (Au L (some d1) w) x=some (.slice a xs.length c)) (ao:ev L y=some v) (ap:ats[0]? =some t) (aq:ats[1]? =some t1) (ar:P.underlying t=some (.slice e)) (au:P.underlying t1=some (.slice e)) (av:P.underlying t2=some (.slice e)) (aw:Bl P e=some pp.n) (hb:FB P e=some U) (ay:zeroOf P e=some z) (az:z.cells.size=pp.n)
  (aA:0<U) (aB:U<=64) (aC:0<pp.n) (aD:pp.n<=64) (aE:xs.length+1<=2 ^ 40) (ab:OL e pp E a c seg xs) (ac:pp.r E v.cells.toList xv) (aF:Aq E H S) (ag:S[j]? =some seg)
  (h:∀w K O seg',OL e pp E K O seg' (xs++ [xv])->Aq E H (S.set j seg')->JL J Q b n (Au (Au L (some d1) w) d (.slice K (xs++ [xv]).length O)) ds (.inRegion ops rest::k) cs (Ak E H (S.set j seg'))):
  JL J Q b n L ds (.inRegion ops (i::ae::rest)::k) cs (Ak E H S):=by
 obtain⟨wss,ab,ah,aG⟩:=ab;obtain⟨aH,aI⟩:=G0 aF ag;rw [aH];have aJ:v.cells.size=pp.n:=by simpa using pp.len ac
 refine Uo ai hw aj ak al am an ao ap aq ar au av aw hb ay az aA aB aJ aC aD aE (pp.one ac) ab aI λw K O aK aL aM=>?_;obtain⟨aN,aO⟩:=I0 ag aM;rw [aN];have hlen:(xs++ [xv]).length=xs.length+1:=by simp
 have:=h w K O aK ⟨wss++ [v.cells.toList],by rw [hlen,List.flatten_append];simpa using aL,by simp [ah],TY ah aG ac⟩ aO;rw [hlen] at this;exact this
theorem RZ{α:Type}{pp:Rp α}{a:Option Addr}{c:Nat}{xs:List α}{xv:α}{m:Int}(O:Al pp E a c xs)(hm:ix xs m=some xv)
  (U:ops[i]? =some ⟨d,.indexAddr t x y,ty,p,af,g⟩) (hw:AM L ops ⟨d,.indexAddr t x y,ty,p,af,g⟩=some true) (Y:BF b n ⟨d,.indexAddr t x y,ty,p,af,g⟩=true)
  (Z:ev L x=some (.slice a xs.length c)) (aa:ev L y=some (.int kd m)) (ab:P.underlying t=some (.slice e)) (ac:Bl P e=some pp.n)
  (h:∀bk o ws,pp.r E ws xv->At E bk o ws->JL J Q b n (Au L d (.pointer (some ⟨bk,o,none⟩))) ds (.inRegion ops rest::k) cs (Ak E H S)):
  JL J Q b n L ds (.inRegion ops (i::rest)::k) cs (Ak E H S):=by
 obtain⟨m,rfl,hm⟩:=FR hm;have ae:m<xs.length:=(List.getElem?_eq_some_iff.1 hm).1;obtain⟨aj,⟨rfl,_⟩ | ⟨bk,off,rfl,ag⟩⟩:=O
 ·simp at ae
 obtain⟨ws,ah,ai⟩:=ag m xv hm;refine A0 (v:= .pointer (some ⟨bk,off+m*pp.n,none⟩)) U hw Y (λρ K=>?_) (h bk _ ws ah ai);have:=Li (P:=P) (s:=Ak E H S) (d:=d) (ty:=ty) (p:=p) (af:=af) (g:=g) ab ac (K x _ Z) (K y _ aa) ⟨by omega,by omega⟩;rw [Dm rfl] at this;simpa using this
theorem At.KZ{bk o j:Nat}{ws:Lv_}{w:Value}(h:At E bk o ws)(K:ws[j]? =some w):(Ak E H S).cell? ⟨bk,o+j,none⟩=some w:=h.cell K
theorem At.LB{bk o:Nat}{ws:Lv_}(h:At E bk o ws):∀j v,ws[j]? =some v->(Ak E H S).cell? (Addr.add ⟨bk,o,none⟩ j)=some v:=h.cells
theorem Bq{todo:Li_}(I:Env->St->Prop){c:Code}(K:∀L s,I L s->JL J Q b n L ds todo cs s)(h:(∀L s,I L s->JL J Q b n L ds todo cs s)->JL J Q b n L ds (.code c::todo) cs s):JL J Q b n L ds (.code c::todo) cs s:=h K
theorem Hp{K:List Nat}{todo:Li_}(l:List Nat)(I:Env->St->Prop)(O:∀L s,I L s->JL J Q b n L ds (.inRegion ops l::todo) cs s)(h:(∀L s,I L s->JL J Q b n L ds (.inRegion ops l::todo) cs s)->JL J Q b n L ds (.inRegion ops K::todo) cs s):JL J Q b n L ds (.inRegion ops K::todo) cs s:=h O
theorem QX{K A:Type}{c:Code}{body:K->Option (Bj K A)}{f:Nat}{O:K}{a:A}(U:iter body f O=some a)(I:Env->St->K->Prop)(Z:I L s O)
  (round:∀L s x,I L s x->(∀Y,body x=some (.done Y)->Y=a)->(∃st,body x=some st)->(∀L' s' x',I L' s' x'->body x=some (.more x')->JL J Q b n L' ds (.inLoop c::k) cs s')->JL J Q b n L ds (.code c:: .inLoop c::k) cs s):
  JL J Q b n L ds (.code (.loop c)::k) cs s:=by
 refine Ip ?_
 induction f generalizing L s O with
 | zero=>cases U
 | succ f aa=>
  refine round L s O Z (λY h=>Qq U h) (Qm U) λL' s' x' ab hb=>JL.again (aa (Ql U hb) ab)
def AL(J:Judge P)(f:FuncId)(args:Lv_)(E:LH)(B:Seg)(R:Value->LH->Seg->Prop):Prop:=
 ∀H,Nd E H B->Ez J f args.toArray (mk E H B) (λv s'=>∃E' B',Le E E'/\R v E' B'/\Nd E' H B'/\s'=mk E' H B')
theorem AL.enter{f:FuncId}{fn:Func}{c:Code}{vs:Lv_}{B:Seg}{R:Value->LH->Seg->Prop}(O:P.funcs[f]? =some fn)(hb:fn.body=some c)(U:vs.length<=fn.ntmps)
  (h:∀(Q:Gs_) (K:Frame) (cs:Lf_) (H:LH),Aq E H [B]->(∀v E' S' B',Le E E'->S'.flatten=B'->R v E' B'->Aq E' H S'->J.ok Q (G (K.finish v) cs) (Ak E' H S'))->JL J Q (base f) fn.ntmps (F2 0 vs) [] [.code c] (K::cs) (Ak E H [B])):AL J f vs E B R:=λH Y=>
 Ez.enter O hb U λQ K cs Z=>by
  have aa:mk E H B=Ak E H [B]:=by unfold Ak;simp
  rw [aa];exact h Q K cs H (by unfold Aq;simpa using Y) λv E' S' B' hle ab ac ae=>by
   subst ab;exact Z v _ ⟨E',S'.flatten,hle,ac,ae,rfl⟩
theorem AL.Ag{f:FuncId}{vs:Lv_}{B:Seg}{R K:Value->LH->Seg->Prop}(h:AL J f vs E B R)(U:∀v E' B',Le E E'->R v E' B'->K v E' B'):AL J f vs E B K:=λH Y=>
 (h H Y).Ag λv s' ⟨E',B',O,Z,aa,ab⟩=>⟨E',B',O,U v E' B' O Z,aa,ab⟩
theorem FQ{H:LH}:∀{A B:List (Nat×Obj)},Bf (A++B) H=Bf A (Bf B H)
 | [],_=>rfl
 | (c,o)::A,B=>by
  funext x
  simp only [List.cons_append,Bf]
  split
  ·rfl
  ·rw [FQ]
theorem Mv{H:LH}{x:Nat}:∀{B:List (Nat×Obj)},(∀p∈B,p.1≠x)->Bf B H x=H x
 | [],_=>rfl
 | (c,u)::B,K=>by
  have O:x≠c:=λe=>K (c,u) (by simp) e.symm
  simp only [Bf,if_neg O]
  exact Mv λp U=>K p (List.mem_cons_of_mem _ U)
theorem Nd.front{A B:List (Nat×Obj)}(h:Nd E H (A++B)):Nd E (Bf B H) A:=by
 rw [Nd.iff] at h ⊢;obtain⟨K,U⟩:=h;rw [List.map_append,List.nodup_append] at K;refine⟨K.1,λq O=>⟨(U q (List.mem_append_left _ O)).1,?_⟩⟩;rw [Mv λr Y e=>K.2.2 q.1 (List.mem_map_of_mem O) r.1 (List.mem_map_of_mem Y) e.symm];exact(U q (List.mem_append_left _ O)).2
theorem Nd.glue{A B:List (Nat×Obj)}(h:Nd E (Bf B H) A)(U:Nd E H B):Nd E H (A++B):=by
 have Y:=U;rw [Nd.iff] at h U ⊢;rw [List.map_append,List.nodup_append];have key:∀q∈A,∀r∈B,q.1≠r.1:=λq K r O e=>by
  have:=(h.2 q K).2;rw [e] at this;obtain⟨i,hi⟩:=Y.mem (b:=r.1) (o:=r.2) O;rw [IV Y hi] at this;cases this
 refine⟨⟨h.1,U.1,λx Z y aa e=>?_⟩,λq K=>?_⟩
 ·obtain⟨q,K,rfl⟩:=List.mem_map.1 Z;obtain⟨r,O,rfl⟩:=List.mem_map.1 aa;exact key q K r O e
 ·rcases List.mem_append.1 K with K | K
  ·refine⟨(h.2 q K).1,?_⟩;have:=(h.2 q K).2
   rwa [Mv λr O e=>key q K r O e.symm] at this
  ·exact U.2 q K
theorem Q9{f:FuncId}{args:Array Operand}{ats:Array TypeId}{vs:Lv_}{seg:Seg}{R:Value->LH->Seg->Prop}(j:Nat)
  (ab:AL J f vs E seg R) (ac:ops[i]? =some ⟨d,.call ⟨.value (.func f),args,ats⟩,ty,p,af,g⟩) (hw:AM L ops ⟨d,.call ⟨.value (.func f),args,ats⟩,ty,p,af,g⟩=some true) (ae:((b.kind != .early)&&Bg n d)=true) (hb:De P f=true)
  (ag:evs L args.toList=some vs) (K:Aq E H S) (O:S[j]? =some seg) (ah:∀v E' seg',Le E E'->R v E' seg'->Aq E' H (S.set j seg')->JL J Q b n (Au L d v) ds (.inRegion ops rest::k) cs (Ak E' H (S.set j seg'))):
  JL J Q b n L ds (.inRegion ops (i::rest)::k) cs (Ak E H S):=by
 have U:S.flatten.Perm (seg++(S.set j []).flatten):=(DZ (seg':=seg) O).1.trans List.perm_append_comm;have Y:Nd E H (seg++(S.set j []).flatten):=Nd.perm K U;have ai:Ak E H S=mk E (Bf (S.set j []).flatten H) seg:=by
  rw [show Ak E H S=mk E H S.flatten from rfl,EV K U];unfold mk;rw [FQ]
 rw [ai];refine V8 ac hw ae hb ag (ab _ (Nd.front Y)) ?_;rintro v s' ⟨E',B',hle,aj,ak,rfl⟩;have e2:mk E' (Bf (S.set j []).flatten H) B'=mk E' H (B'++(S.set j []).flatten):=by unfold mk;rw [FQ]
 have al:Nd E H (S.set j []).flatten:=by
  have:=Y;rw [Nd.iff] at this ⊢;rw [List.map_append,List.nodup_append] at this;exact⟨this.1.2.1,λq am=>this.2 q (List.mem_append_right _ am)⟩
 refine RE rfl λ⟨w,an⟩=>?_;have ao:Nd E' H (S.set j []).flatten:=al.grow λx ap=>by
  have aq:=an.d x ap;have ar:Bf B' (Bf (S.set j []).flatten H) x=none:=aq;exact(HP ar).1
 have Z:Nd E' H (B'++(S.set j []).flatten):=Nd.glue ak ao;rw [e2];have aa:(B'++(S.set j []).flatten).Perm (S.set j B').flatten:=List.perm_append_comm.trans (DZ O).2.symm;rw [EV Z aa];exact ah v E' B' hle aj (Nd.perm Z aa)
theorem JS.call{f:FuncId}{args:Array Operand}{ats:Array TypeId}{vs:Lv_}{R:Value->LH->Seg->Prop}
  (U:AL J f vs E [] R) (Y:ops[i]? =some ⟨d,.call ⟨.value (.func f),args,ats⟩,ty,p,af,g⟩) (hw:AM L ops ⟨d,.call ⟨.value (.func f),args,ats⟩,ty,p,af,g⟩=some true) (Z:((b.kind != .early)&&Bg n d)=true) (hb:De P f=true)
  (aa:evs L args.toList=some vs) (K:Aq E H S) (ab:∀v E' seg',Le E E'->R v E' seg'->Aq E' H (S++ [seg'])->JL J Q b n (Au L d v) ds (.inRegion ops rest::k) cs (Ak E' H (S++ [seg']))):
  JL J Q b n L ds (.inRegion ops (i::rest)::k) cs (Ak E H S):=by
 have ac:Ak E H S=Ak E H (S++ [[]]):=by unfold Ak;simp
 rw [ac];refine Q9 S.length U Y hw Z hb aa (by unfold Aq at K ⊢;rw [GY,List.append_nil];exact K) (by simp) λv E' seg' hle ae O=>?_;have e2:(S++ [[]]).set S.length seg'=S++ [seg']:=IY _ _ _ _;rw [e2] at O ⊢;exact ab v E' seg' hle ae O
theorem HU{todo:Li_}{S':List Seg}(K:S'.flatten=S.flatten)(O:Aq E H S)(h:Aq E H S'->JL J Q b n L ds todo cs (Ak E H S')):JL J Q b n L ds todo cs (Ak E H S):=by
 unfold Ak Aq at*;rw [K] at h;exact h O
end
end Pal
namespace Pal
open Go Go.Conc
def Ld(P:Program)(t:TypeId)(a:Addr)(s:St)(v:Value):Prop:=lp P (loadVar t a) s (λu s'=>u=v/\s'=s) (λ_ _=>False)
theorem Ld.one{P:Program}{t:TypeId}{a:Addr}{s:St}{v:Value}(K:C9 P t=some false)(h:s.cell? a=some v):Ld P t a s v:=P4 K h ⟨rfl,rfl⟩
theorem Ld.many{P:Program}{t:TypeId}{a:Addr}{s:St}{vs:Lv_}(K:C9 P t=some true)(O:Bl P t=some vs.length)(h:∀j v,vs[j]? =some v->s.cell? (a.add j)=some v):Ld P t a s (.agg vs.toArray):=P5 K O h ⟨rfl,rfl⟩
def RV(P:Program)(L:Env)(s:St):List ResultVar->Lv_->Prop
 | [],[]=>True
 | .tmp t::rs,v::vs=>look L t=some v/\RV P L s rs vs
 | .cell a t::rs,v::vs=>(∃ad,look L a=some (.pointer (some ad))/\Ld P t ad s v)/\RV P L s rs vs
 | _,_=>False
def MI:Lv_->Value
 | [v]=>v
 | vs=> .tuple vs.toArray
theorem Un(vs:Lv_):(if h:vs.toArray.size=1 then vs.toArray[0] else Value.tuple vs.toArray)=MI vs:=by
 match vs with
 | []=>rfl
 | [v]=>rfl
 | a::b::c=>simp [MI]
theorem Bx.list{P:Program}{f:FuncId}{fn:Func}{n:Nat}{L:Env}{s:St}{rs:List ResultVar}{vs:Lv_}(Z:P.funcs[f]? =some fn)(aa:fn.results.toList=rs)(h:RV P L s rs vs):Bx P f L n s (MI vs):=by
 refine⟨fn,Z,λT U=>?_⟩;unfold results;rw [Array.mapM_eq_mapM_toList,aa];have key:∀(rs:List ResultVar) (acc vs:Lv_) {Q:Lv_->St->Prop} {X:Halt->St->Prop},RV P L s rs vs->Q (acc.reverse++vs) s->lp P (List.mapM.loop (m:=Sem) (λr=>match r with
   | .tmp t=>pure (T.getD t undef)
   | .cell a t=>do loadVar t (← asAddr (T.getD a undef))) rs acc) s Q X:=by
  intro rs
  induction rs with
  | nil=>
   intro acc vs Q X h k;cases vs with
   | nil=>simp only [List.append_nil] at k;exact k
   | cons v vs=>cases h
  | cons r rs Y=>
   intro acc vs Q X h k;cases vs with
   | nil=>cases r <;> cases h
   | cons v vs=>
    cases r with
    | tmp t=>
     obtain⟨K,O⟩:=h;have:=U.at_ t v K;simp only [List.mapM.loop];rw [this];exact Y (v::acc) vs O (by simpa using k)
    | cell a t=>
     obtain⟨⟨ad,K,ab⟩,O⟩:=h;have:=U.at_ a _ K;simp only [List.mapM.loop];rw [this];refine As _ _ (Ec _ (show lp P (loadVar t ad) s _ _ from ab) ?_ (λ_ _ h=>h.elim));rintro u s' ⟨rfl,rfl⟩;exact Y (u::acc) vs O (by simpa using k)
 refine As _ _ (As (x:=List.mapM.loop (m:=Sem) _ rs []) (f:=λr=>pure r.toArray) ?_);refine key rs [] vs h ?_;simp only [List.reverse_nil,List.nil_append,lp,pure];exact⟨Un vs,trivial⟩
section
variable {P:Program}{J:Judge P}{Q:Gs_}{g:Goroutine}{E H:LH}{S:List Seg}
theorem Eg{seg:Seg}(j:Nat)(Z:Aq E H S)(U:S[j]? =some seg)(h:Aq E H (S.set j [])->J.ok Q g (Ak E H (S.set j []))):J.ok Q g (Ak E H S):=by
 obtain⟨aa,K⟩:=G0 Z U;have ab:Nd E H ((S.set j []).flatten++ []):=by rw [List.append_nil];exact J1.Nd.left K
 obtain⟨ah,ac⟩:=I0 (seg':= []) U ab;refine J.ghost (s₀:=Ak E H (S.set j [])) ⟨λ_ _ h=>h,λx o ae=>?_,λ_ _ h=> .inl h,rfl⟩ (h ac);have Y:Bf (S.set j []).flatten H x=some o:=ae;show(Ak E H S).H x=some o;rw [aa];show Bf ((S.set j []).flatten++seg) H x=some o;rw [show Bf ((S.set j []).flatten++seg) H=Bf (seg++(S.set j []).flatten) H from Qf K List.perm_append_comm,FQ];by_cases hm:∃p∈seg,p.1=x
 ·exfalso;obtain⟨p,O,e⟩:=hm;have ag:=Nd.front (Nd.perm K List.perm_append_comm);have:=((Nd.iff.1 ag).2 p O).2;rw [e,Y] at this;cases this
 ·rw [Mv λp O e=>hm ⟨p,O,e⟩];exact Y
end
section
variable {P:Program}{J:Judge P}{Q:Gs_}{b:Frame}{n:Nat}{ds:Ld_}{ops:Ao_}{k:Li_}{cs:Lf_}{L:Env}{s:St}{E E' H:LH}{S:List Seg}
variable {d:Option Tmp}{x y:Operand}{t u ty e:TypeId}{p:String}{af:Ae_}{g:On_}{v:Value}{i:Nat}{rest:List Nat}{kd:IntKind}
theorem QA{ρ:Operand->Value}{len:Nat}{K:Array (Nat×Operand)}:execOp ρ ⟨d,.buildSlice t len K,ty,p,af,g⟩=(do pure (Next.value (← Instr.buildSlice t len (K.map λ(j,x)=>(j,ρ x))))):=by
 simp only [execOp]
theorem Uc(v:Av_)(off:Nat)(c:Av_):v.zipIdx.foldl (λcs (x,j)=>cs.setIfInBounds (off+j) x) c=Bb c off v.toList:=by
 rw [← Array.foldl_toList,Array.toList_zipIdx];have key:∀(l:Lv_) (st:Nat) (c:Av_),List.foldl (λcs (p:Value×Nat)=>cs.setIfInBounds (off+p.2) p.1) c (l.zipIdx st)=Bb c (off+st) l:=by
  intro l
  induction l with
  | nil=>intro st c;rfl
  | cons x l K=>intro st c;simp only [List.zipIdx_cons,List.foldl_cons,Bb];rw [K];rfl
 exact key v.toList 0 c
def Kg(place:Nat->Option (Nat×Nat))(cells:Av_):List (Nat×Value)->Option (Av_)
 | []=>some cells
 | (i,v)::rest=>match place i with
  | none=>none
  | some (off,size)=>if v.cells.size=size/\off+v.cells.size<=cells.size then Kg place (Bb cells off v.cells.toList) rest else none
theorem fill_eq{place:Nat->Option (Nat×Nat)}:∀{vs:List (Nat×Value)} {cells:Av_},Instr.fill place cells vs=Kg place cells vs
 | [],_=>rfl
 | (i,v)::rest,cells=>by
  simp only [Instr.fill,Kg]
  cases place i with
  | none=>rfl
  | some q=>
   obtain⟨off,size⟩:=q
   simp only
   by_cases h:v.cells.size=size/\off+v.cells.size<=cells.size
   ·rw [if_pos h,if_neg (by simp only [Bool.or_eq_true,decide_eq_true_eq,ne_eq];omega),fill_eq,Uc]
   ·rw [if_neg h,if_pos (by simp only [Bool.or_eq_true,decide_eq_true_eq,ne_eq];omega)]
theorem Q8{n:Nat}:∀(vs:Lv_) (st:Nat) (cells:Av_),(∀v∈vs,v.cells.size=n)->cells.size=(st+vs.length)*n->
  ∃U,Kg (λi=>some (i*n,n)) cells ((vs.zipIdx st).map λq=>(q.2,q.1))=some U/\U.toList=cells.toList.take (st*n)++(vs.map (·.cells.toList)).flatten
 | [],st,cells,_,K=>⟨cells,rfl,by simp only [List.length_nil,Nat.add_zero] at K;simp [← K,List.take_of_length_le]⟩
 | v::vs,st,cells,Y,K=>by
  have O:=Y v (by simp)
  have hle:st*n+n<=cells.size:=by
   rw [K,List.length_cons];have:(st+1)*n<=(st+(vs.length+1))*n:=Nat.mul_le_mul_right _ (by omega);rw [Nat.succ_mul] at this;exact this
  obtain⟨Z,aa,ab⟩:=Q8 vs (st+1) (Bb cells (st*n) v.cells.toList) (λu hu=>Y u (List.mem_cons_of_mem _ hu)) (by rw [Lg,K,List.length_cons];congr 1;omega);refine⟨Z,?_,?_⟩
  ·simp only [List.zipIdx_cons,List.map_cons,Kg];rw [if_pos ⟨O,by omega⟩];exact aa
  ·rw [ab,Nat.succ_mul];have:=NS cells (st*n) v.cells.toList (by simp [O];omega);rw [show v.cells.toList.length=n by simp [O]] at this;rw [this];simp
def Km{α:Type}(pp:Rp α)(E:LH):List α->Lv_->Prop
 | [],[]=>True
 | x::xs,v::vs=>pp.r E v.cells.toList x/\Km pp E xs vs
 | _,_=>False
theorem Km.at{E:LH}{α:Type}{pp:Rp α}:∀{xs:List α} {vs:Lv_},Km pp E xs vs->∀(i:Nat) x v,xs[i]? =some x->vs[i]? =some v->pp.r E v.cells.toList x
 | [],_,_,_,_,_,h,_=>by simp at h
 | _::_,[],h,_,_,_,_,_=>h.elim
 | x::xs,v::vs,h,0,y,u,K,hu=>by simp at K hu;subst K hu;exact h.1
 | x::xs,v::vs,h,i+1,y,u,K,hu=>Km.at h.2 i y u (by simpa using K) (by simpa using hu)
theorem SH{E0:LH}{ρ:Operand->Value}{K:Next->St->Prop}(ak:EG L ρ){α:Type}{pp:Rp α}{len:Nat}{Z:Array (Nat×Operand)}(vs:Lv_){z:Value}(xs:List α)
  (al:P.underlying t=some (.slice e)) (am:Bl P e=some pp.n) (an:zeroOf P e=some z) (ao:decide (0<len*pp.n/\len*pp.n<=2 ^ 24)=true)
  (ap:Z.toList.mapM (λq=>(ev L q.2).map λv=>(q.1,v))=some ((vs.zipIdx 0).map λq=>(q.2,q.1)))
  (U:vs.length=len) (Y:xs.length=len) (aq:Km pp E0 xs vs) (ar:Aq E H S)
  (h:∀r seg,OL e pp E0 (some ⟨r,0,none⟩) len seg xs->Aq E H (S++ [seg])->K (.value (.slice (some ⟨r,0,none⟩) xs.length len)) (Ak E H (S++ [seg]))):
  lp P (execOp ρ ⟨d,.buildSlice t len Z,ty,p,af,g⟩) (Ak E H S) K (λ_ _=>False):=by
 have ae:=aq.at;have au:(Z.map λ(j,x)=>(j,ρ x)).toList=(vs.zipIdx 0).map λq=>(q.2,q.1):=by
  have key:∀(l:List (Nat×Operand)) (vs:List (Nat×Value)),l.mapM (λq=>(ev L q.2).map λv=>(q.1,v))=some vs->l.map (λ(j,x)=>(j,ρ x))=vs:=by
   intro l
   induction l with
   | nil=>intro vs h;simp at h;subst h;rfl
   | cons q l aa=>
    intro vs h;simp only [List.mapM_cons,bind] at h;cases ab:ev L q.2 with
    | none=>rw [ab] at h;simp at h
    | some w=>
     rw [ab] at h;simp only [Option.map_some,Option.bind_some] at h;obtain⟨av,aw,ag⟩:=bind_some h;simp at ag;subst ag;simp [aa av aw,ak _ _ ab]
  rw [Array.toList_map];exact key _ _ ap
 have ah:∀v∈vs,v.cells.size=pp.n:=λv O=>by
  obtain⟨i,hi⟩:=List.mem_iff_getElem?.1 O;have ay:i<xs.length:=by rw [Y,← U];exact(List.getElem?_eq_some_iff.1 hi).1
  simpa using pp.len (ae i _ v (List.getElem?_eq_getElem ay) hi)
 rw [QA];refine As _ _ ?_;unfold Instr.buildSlice;refine As _ _ (Ce al ?_);refine As _ _ (ED am ?_);have aB:=of_decide_eq_true ao;rw [if_neg (by omega),if_neg (by omega)];refine As (x:=zeroValue e) _ (Hm an ?_);rw [HQ,au];obtain⟨cells,az,ac⟩:=Q8 vs 0 ((Array.range (len*pp.n)).map (z.cells[· % z.cells.size]!)) ah (by simp [U]);simp only [fill_eq,az];simp only [Nat.zero_mul,List.take_zero,List.nil_append] at ac;refine As _ _ (IQ ar λr ai=>?_);rw [(Fv ai).1];have aj:cells.size=len*pp.n:=by
  have:cells.toList.length=len*pp.n:=by
   rw [ac];have:∀(vs:Lv_),(∀v∈vs,v.cells.size=pp.n)->(vs.map (·.cells.toList)).flatten.length=vs.length*pp.n:=by
    intro vs
    induction vs with
    | nil=>intro _;simp
    | cons v vs aa=>intro h;rw [List.map_cons,List.flatten_cons,List.length_append,aa λw hw=>h w (List.mem_cons_of_mem _ hw),List.length_cons,Nat.succ_mul,Nat.add_comm];simp [h v (by simp)]
   rw [this vs ah,U]
  simpa using this
 have:=h r [(r,.cells cells e (0,0))] ⟨vs.map (·.cells.toList),.inr ⟨r,cells,rfl,rfl,aj,by omega,by rw [← ac,List.take_of_length_le (by simp [aj,Y])]⟩,by simp [U,Y],λi x ws aA hw=>by
  rw [List.getElem?_map] at hw
  cases O:vs[i]? with
  | none=>rw [O] at hw;cases hw
  | some v=>rw [O] at hw;cases hw;exact ae i x v aA O⟩ (Fv ai).2
 rw [Y] at this;exact this
theorem Fx{α:Type}{pp:Rp α}{len:Nat}{K:Array (Nat×Operand)}(vs:Lv_){z:Value}(xs:List α)
  (O:ops[i]? =some ⟨d,.buildSlice t len K,ty,p,af,g⟩) (hw:AM L ops ⟨d,.buildSlice t len K,ty,p,af,g⟩=some true) (U:BF b n ⟨d,.buildSlice t len K,ty,p,af,g⟩=true)
  (Y:P.underlying t=some (.slice e)) (Z:Bl P e=some pp.n) (aa:zeroOf P e=some z) (ab:decide (0<len*pp.n/\len*pp.n<=2 ^ 24)=true)
  (ac:K.toList.mapM (λq=>(ev L q.2).map λv=>(q.1,v))=some ((vs.zipIdx 0).map λq=>(q.2,q.1)))
  (ae:vs.length=len) (ag:xs.length=len) (ah:Km pp E xs vs) (ai:Aq E H S)
  (h:∀r seg,OL e pp E (some ⟨r,0,none⟩) len seg xs->Aq E H (S++ [seg])->JL J Q b n (Au L d (.slice (some ⟨r,0,none⟩) xs.length len)) ds (.inRegion ops rest::k) cs (Ak E H (S++ [seg]))):
  JL J Q b n L ds (.inRegion ops (i::rest)::k) cs (Ak E H S):=by
 exact JL.op O hw U λρ aj=>SH aj vs xs Y Z aa ab ac ae ag ah ai h
theorem OL.get{α:Type}{pp:Rp α}{a:Option Addr}{c:Nat}{seg:Seg}{xs:List α}{m:Nat}{x:α}(Z:OL e pp E a c seg xs)(hm:xs[m]? =some x):
  ∃bk f ws,a=some ⟨bk,0,none⟩/\seg= [(bk,.cells f e (0,0))]/\pp.r E ws x/\(∀j w,ws[j]? =some w->f[m*pp.n+j]? =some w)/\(m+1)*pp.n<=f.size/\
   ∀(x':α) (ws':Lv_),pp.r E ws' x'->OL e pp E a c [(bk,.cells (Bb f (m*pp.n) ws') e (0,0))] (xs.set m x'):=by
 obtain⟨wss,Z,ae,aa⟩:=Z;have ag:m<xs.length:=(List.getElem?_eq_some_iff.1 hm).1;rcases Z with⟨ab,ah,_⟩ | ⟨bk,f,ab,ah,ao,ai,aj⟩
 ·omega
 have hw:wss[m]? =some wss[m]:=List.getElem?_eq_getElem (by omega);have ak:=HW ae aa;have hle:(m+1)*pp.n<=xs.length*pp.n:=Nat.mul_le_mul_right _ ag;have ar:xs.length*pp.n<=c*pp.n:=Nat.mul_le_mul_right _ ai;refine⟨bk,f,wss[m],ab,ah,aa m x _ hm hw,λj w K=>?_,by omega,λx' ws' al=>?_⟩
 ·have:=J3 ak hw j w K;rw [aj,List.getElem?_take] at this;split at this
  ·simpa using this
  ·cases this
 ·have am:ws'.length=pp.n:=pp.len al;refine⟨wss.set m ws',.inr ⟨bk,_,ab,rfl,by rw [Lg];exact ao,by simpa using ai,?_⟩,by simpa using ae,λi y us Y hu=>?_⟩
  ·simp only [List.length_set];have key:∀(wss:List (Lv_)) (m:Nat) (hm:m<wss.length),(∀ws∈wss,ws.length=pp.n)->∀j,(wss.set m ws').flatten[j]? =if m*pp.n<=j/\j<(m+1)*pp.n then ws'[j - m*pp.n]? else wss.flatten[j]? :=by
    intro wss
    induction wss with
    | nil=>intro m hm;simp at hm
    | cons us wss ac=>
     intro m hm an j;have hu:us.length=pp.n:=an us (by simp);cases m with
     | zero=>
      simp only [List.set_cons_zero,List.flatten_cons,Nat.zero_mul,Nat.zero_le,true_and,Nat.zero_add,Nat.one_mul,Nat.sub_zero];split
      ·rename_i K;rw [List.getElem?_append_left (by omega)]
      ·rename_i K;rw [List.getElem?_append_right (by omega),List.getElem?_append_right (by omega),am,hu]
     | succ m=>
      simp only [List.set_cons_succ,List.flatten_cons];have O:(m+1)*pp.n=m*pp.n+pp.n:=Nat.succ_mul _ _;have e2:(m+1+1)*pp.n=(m+1)*pp.n+pp.n:=Nat.succ_mul _ _;rcases Nat.lt_or_ge j us.length with K | K
      ·rw [List.getElem?_append_left K,List.getElem?_append_left K,if_neg (by omega)]
      ·rw [List.getElem?_append_right K,List.getElem?_append_right K,ac m (by simpa using hm) (λws ap=>an ws (List.mem_cons_of_mem _ ap))];by_cases U:m*pp.n<=j - us.length/\j - us.length<(m+1)*pp.n
       ·rw [if_pos U,if_pos (by omega)];congr 1;omega
       ·rw [if_neg U,if_neg (by omega)]
   have aq:∀(vs:Lv_) (c:Av_) (off:Nat),off+vs.length<=c.size->∀j,(Bb c off vs)[j]? =if off<=j/\j<off+vs.length then vs[j - off]? else c[j]? :=by
    intro vs
    induction vs with
    | nil=>intro c off _ j;simp [Bb];omega
    | cons w vs ac=>
     intro c off U j;simp only [Bb,List.length_cons] at*;rw [ac _ _ (by simp;omega)];by_cases O:j=off
     ·subst O;rw [if_neg (by omega),if_pos (by omega),Nat.sub_self,List.getElem?_cons_zero,Array.getElem?_setIfInBounds_self_of_lt (by omega)]
     ·by_cases e2:off+1<=j/\j<off+1+vs.length
      ·rw [if_pos e2,if_pos (by omega)];have:j - off=(j - (off+1))+1:=by omega
       rw [this];simp
      ·rw [if_neg e2,if_neg (by omega),Array.getElem?_setIfInBounds_ne (by omega)]
   apply List.ext_getElem?;intro j;have O:(m+1)*pp.n=m*pp.n+pp.n:=Nat.succ_mul _ _;have t1:(Bb f (m*pp.n) ws').toList[j]? =(Bb f (m*pp.n) ws')[j]? :=Array.getElem?_toList;have t2:f.toList[j]? =f[j]? :=Array.getElem?_toList;rw [key wss m (by omega) ak,List.getElem?_take,t1,aq ws' f (m*pp.n) (by omega),aj,List.getElem?_take,t2,am];by_cases U:m*pp.n<=j/\j<(m+1)*pp.n
   ·rw [if_pos U,if_pos (by omega),if_pos (by omega)]
   ·rw [if_neg U,if_neg (show ¬(m*pp.n<=j/\j<m*pp.n+pp.n) by omega)]
  ·rw [List.getElem?_set] at Y hu;by_cases O:m=i
   ·subst O;rw [if_pos rfl,if_pos ag] at Y;rw [if_pos rfl,if_pos (by omega)] at hu;cases Y;cases hu;exact al
   ·rw [if_neg O] at hu Y;exact aa i y us Y hu
theorem KM{α:Type}{pp:Rp α}{a:Option Addr}{c:Nat}{seg:Seg}{xs:List α}{xv:α}{m:Int}(j:Nat)(O:OL e pp E a c seg xs)(hm:ix xs m=some xv)(U:S[j]? =some seg)
  (Y:ops[i]? =some ⟨d,.indexAddr t x y,ty,p,af,g⟩) (hw:AM L ops ⟨d,.indexAddr t x y,ty,p,af,g⟩=some true) (Z:BF b n ⟨d,.indexAddr t x y,ty,p,af,g⟩=true)
  (aa:ev L x=some (.slice a xs.length c)) (ab:ev L y=some (.int kd m)) (ac:P.underlying t=some (.slice e)) (ae:Bl P e=some pp.n)
  (h:∀bk o f ws,S[j]? =some [(bk,.cells f e (0,0))]->pp.r E ws xv->(∀j w,ws[j]? =some w->f[o+j]? =some w)->o+pp.n<=f.size->(∀(x':α) (ws':Lv_),pp.r E ws' x'->OL e pp E a c [(bk,.cells (Bb f o ws') e (0,0))] (xs.set m.toNat x'))->o=m.toNat*pp.n->a=some ⟨bk,0,none⟩->
   JL J Q b n (Au L d (.pointer (some ⟨bk,o,none⟩))) ds (.inRegion ops rest::k) cs (Ak E H S)):
  JL J Q b n L ds (.inRegion ops (i::rest)::k) cs (Ak E H S):=by
 obtain⟨m,rfl,hm⟩:=FR hm;have am:m<xs.length:=(List.getElem?_eq_some_iff.1 hm).1;obtain⟨bk,f,ws,rfl,rfl,ag,ah,ai,aj⟩:=OL.get O hm;have ak:(m+1)*pp.n=m*pp.n+pp.n:=Nat.succ_mul _ _;have al:m*pp.n+pp.n<=f.size:=by rw [← ak];exact ai
 refine A0 (v:= .pointer (some ⟨bk,m*pp.n,none⟩)) Y hw Z (λρ K=>?_) (h bk (m*pp.n) f ws U ag ah al (by simpa using aj) (by simp) rfl);have:=Li (P:=P) (s:=Ak E H S) (d:=d) (ty:=ty) (p:=p) (af:=af) (g:=g) ac ae (K x _ aa) (K y _ ab) ⟨by omega,by omega⟩;rw [Dm rfl] at this;simpa using this
end
end Pal
namespace Pal
open Go Go.Conc
section
variable {P:Program}{J:Judge P}{Q:Gs_}{b:Frame}{n:Nat}{ds:Ld_}{ops:Ao_}{k:Li_}{cs:Lf_}{L:Env}{s:St}{E E' H:LH}{S:List Seg}
variable {d:Option Tmp}{x y:Operand}{t u ty e:TypeId}{p:String}{af:Ae_}{g:On_}{v:Value}{i:Nat}{rest:List Nat}{kd:IntKind}
theorem JS.perm{todo:Li_}{S':List Seg}(K:S.flatten.Perm S'.flatten)(O:Aq E H S)(h:Aq E H S'->JL J Q b n L ds todo cs (Ak E H S')):JL J Q b n L ds todo cs (Ak E H S):=by
 have U:Aq E H S':=Nd.perm O K;rw [show Ak E H S=Ak E H S' from EV O K];exact h U
theorem Gh{todo:Li_}{A B:Seg}(j:Nat)(K:S[j]? =some (A++B))(O:Aq E H S)(h:Aq E H (S.set j A++ [B])->JL J Q b n L ds todo cs (Ak E H (S.set j A++ [B]))):JL J Q b n L ds todo cs (Ak E H S):=by
 refine JS.perm ?_ O h;have U:=(DZ (seg':=A) K).1;have Y:=(DZ (seg':=A) K).2;rw [GY];refine U.trans ?_;have Z:=Y.symm.append_right B
 rwa [List.append_assoc] at Z
theorem JS.swap{todo:Li_}{A B:Seg}(j l:Nat)(O:S[j]? =some A)(U:S[l]? =some B)(Y:(j==l)=false)(Z:Aq E H S)(h:Aq E H ((S.set j B).set l A)->JL J Q b n L ds todo cs (Ak E H ((S.set j B).set l A))):JL J Q b n L ds todo cs (Ak E H S):=by
 have K:j≠l:=by simpa using Y
 refine JS.perm ?_ Z h;have a1:=(DZ (seg':=B) O).1;have aa:(S.set j [])[l]? =some B:=by rw [List.getElem?_set_ne K];exact U
 have ab:=(DZ (seg':=A) aa).1;have ac:((S.set j B).set l A)[l]? =some A:=by
  have:l<(S.set j B).length:=by rw [List.length_set];exact(List.getElem?_eq_some_iff.1 U).1
  rw [List.getElem?_set,if_pos rfl,if_pos this]
 have c1:=(DZ (seg':=A) ac).1;rw [List.set_set] at c1;have ae:((S.set j B).set l [])[j]? =some B:=by
  have:j<S.length:=(List.getElem?_eq_some_iff.1 O).1;rw [List.getElem?_set_ne (Ne.symm K)];simp [this]
 have c2:=(DZ (seg':=B) ae).1;have ag:(((S.set j B).set l []).set j [])=((S.set j []).set l []):=by
  rw [List.set_comm _ _ K,List.set_set,List.set_comm _ _ K.symm]
 rw [ag] at c2;exact a1.trans ((ab.append_right A).trans ((c2.symm.append_right A).trans c1.symm))
theorem GV{bk off:Nat}{c:Av_}{f:Nat×Nat}{vs:Lv_}{seg:Seg}(j:Nat)(K:Aq E H S)(O:S[j]? =some ((bk,.cells c e f)::seg))(U:(c.toList.drop off).take vs.length=vs):∀i v,vs[i]? =some v->(Ak E H S).cell? (Addr.add ⟨bk,off,none⟩ i)=some v:=
 Ur K O λi v hi=>by
  have Y:i<vs.length:=(List.getElem?_eq_some_iff.1 hi).1
  rw [← U,List.getElem?_take_of_lt Y,List.getElem?_drop,Array.getElem?_toList] at hi
  exact hi
theorem Ll(vs:Lv_):∀(c:Av_) (off:Nat),off+vs.length<=c.size->∀j,(Bb c off vs)[j]? =if off<=j/\j<off+vs.length then vs[j - off]? else c[j]? :=by
 induction vs with
 | nil=>intro c off _ j;simp [Bb];omega
 | cons w vs K=>
  intro c off U j;simp only [Bb,List.length_cons] at*;rw [K _ _ (by simp;omega)];by_cases O:j=off
  ·subst O;rw [if_neg (by omega),if_pos (by omega),Nat.sub_self,List.getElem?_cons_zero,Array.getElem?_setIfInBounds_self_of_lt (by omega)]
  ·by_cases e2:off+1<=j/\j<off+1+vs.length
   ·rw [if_pos e2,if_pos (by omega)];have:j - off=(j - (off+1))+1:=by omega
    rw [this];simp
   ·rw [if_neg e2,if_neg (by omega),Array.getElem?_setIfInBounds_ne (by omega)]
end
end Pal
namespace Pal
open Go Go.Conc
theorem elim_inl{α β K:Type}{f:α->Option K}{g:β->Option K}{x:α}{r:K}(h:Sum.elim f g (.inl x)=some r):f x=some r:=h
theorem elim_inr{α β K:Type}{f:α->Option K}{g:β->Option K}{x:β}{r:K}(h:Sum.elim f g (.inr x)=some r):g x=some r:=h
def room{α:Type}(xs:List α)(x:α):Option (List α):=if xs.length+1<=2 ^ 40 then some (xs++ [x]) else none
theorem UC{α:Type}{xs ys:List α}{x:α}(h:room xs x=some ys):xs.length+1<=2 ^ 40/\ys=xs++ [x]:=by
 unfold room at h;split at h
 ·rename_i hb;exact⟨hb,(Option.some.inj h).symm⟩
 ·cases h
def Nz(a b:Int):Option Int:=if b=0 then none else some (a.tmod b)
def Nm(a b:Nat):Option Nat:=if b=0 then none else some (a % b)
section
variable {P:Program}{s:St}{ρ:Operand->Value}{x y z:Operand}{d:Option Tmp}{t u ty e:TypeId}{p:String}{af:Ae_}{g:On_}{v:Value}{kd kd':IntKind}{m m':Int}{a b:Nat}
theorem W4{r:Int}(K:ρ x=iV m)(O:ρ y=iV m')(h:Nz m m'=some r):Yl P ⟨d,.binOp .rem t x y u,ty,p,af,g⟩ ρ s (iV r):=by
 unfold Nz at h;split at h
 ·cases h
 ·rename_i U;cases h;exact Yl.rem K O U
theorem VX{r:Nat}(K:ρ x= .int .u64 (a:Int))(O:ρ y= .int .u64 (b:Int))(h:Nm a b=some r):Yl P ⟨d,.binOp .rem t x y u,ty,p,af,g⟩ ρ s (.int .u64 (r:Int)):=by
 unfold Nm at h;split at h
 ·cases h
 ·rename_i U;cases h;exact Xk K O U
theorem Yl.min2{ats:Array TypeId}(K:ρ x=iV m)(O:ρ y=iV m'):Yl P ⟨d,.call ⟨.builtin .min,#[x,y],ats⟩,ty,p,af,g⟩ ρ s (iV (min m m')):=by
 have e:(if m'<m then m' else m)=min m m':=by split <;> omega
 simp [Yl,execOp,lp,pure,bind,Sem.bind,K,O,resolve,invoke,builtin,Builtin.min_,Builtin.min2,e]
theorem Yl.max2{ats:Array TypeId}(K:ρ x=iV m)(O:ρ y=iV m'):Yl P ⟨d,.call ⟨.builtin .max,#[x,y],ats⟩,ty,p,af,g⟩ ρ s (iV (max m m')):=by
 have e:(if m<m' then m' else m)=max m m':=by split <;> omega
 simp [Yl,execOp,lp,pure,bind,Sem.bind,K,O,resolve,invoke,builtin,Builtin.max_,Builtin.max2,e]
end
def K2(P:Program):List Field->List (Nat×Nat)->Prop
 | f::K,(o,n)::O=>f.offset=o/\Bl P f.type=some n/\K2 P K O
 | [],[]=>True
 | _,_=>False
theorem K2.mapM{P:Program}:∀{K:List Field} {O:List (Nat×Nat)},K2 P K O->K.mapM (λf=>(Bl P f.type).map λn=>(f.offset,n))=some O
 | [],[],_=>rfl
 | [],_::_,h=>h.elim
 | _::_,[],h=>h.elim
 | f::K,(o,n)::O,h=>by
  obtain⟨U,Y,Z⟩:=h
  simp only [List.mapM_cons,bind,Y,Option.map_some,Option.bind_some,K2.mapM Z,U];rfl
theorem Od{L:Env}{ρ:Operand->Value}(h:EG L ρ):∀{l:List (Nat×Operand)} {vs:List (Nat×Value)},l.mapM (λq=>(ev L q.2).map λv=>(q.1,v))=some vs->l.map (λ(j,x)=>(j,ρ x))=vs
 | [],vs,e=>by simp at e;subst e;rfl
 | q::l,vs,e=>by
  simp only [List.mapM_cons,bind] at e
  cases K:ev L q.2 with
  | none=>rw [K] at e;simp at e
  | some w=>
   rw [K] at e
   simp only [Option.map_some,Option.bind_some] at e
   obtain⟨Y,U,O⟩:=bind_some e
   simp at O;subst O
   simp [Od h U,h _ _ K]
theorem Dc{P:Program}{s:St}{ρ:Operand->Value}{L:Env}{d:Option Tmp}{t ty:TypeId}{p:String}{af:Ae_}{g:On_}{z:Value}{K:Array Field}{O:Array (Nat×Operand)}{vs:List (Nat×Value)}{cells:Av_}(places:List (Nat×Nat))(h:EG L ρ)(U:zeroOf P t=some z)(Y:P.underlying t=some (.struct K))(Z:K2 P K.toList places)
  (aa:O.toList.mapM (λq=>(ev L q.2).map λv=>(q.1,v))=some vs) (ab:Kg (places.toArray[·]?) z.cells vs=some cells):Yl P ⟨d,.build t O,ty,p,af,g⟩ ρ s (.agg cells):=
 Yl.build (places:=places.toArray) U Y (by simpa using Z.mapM) (Od h aa) (by rw [fill_eq];exact ab)
theorem OL.again{α:Type}{e:TypeId}{pp:Rp α}{E:LH}{a:Option Addr}{bk c o:Nat}{f:Av_}{xs:List α}{m:Int}{x:α}(O:OL e pp E a c [(bk,.cells f e (0,0))] xs)(hm:ix xs m=some x)(U:o=m.toNat*pp.n):
  ∃ws,pp.r E ws x/\(∀j w,ws[j]? =some w->f[o+j]? =some w)/\o+pp.n<=f.size/\∀(x':α) (ws':Lv_),pp.r E ws' x'->OL e pp E a c [(bk,.cells (Bb f o ws') e (0,0))] (xs.set m.toNat x'):=by
 obtain⟨m,rfl,hm⟩:=FR hm;obtain⟨ag,ah,ws,ai,K,Y,Z,aa,ab⟩:=OL.get O hm;simp only [List.cons.injEq,Prod.mk.injEq,Obj.cells.injEq,and_true] at K;obtain⟨rfl,rfl⟩:=K;have ac:(m+1)*pp.n=m*pp.n+pp.n:=Nat.succ_mul _ _;have ae:o=m*pp.n:=by simpa using U
 subst ae;exact⟨ws,Y,Z,by rw [← ac];exact aa,by simpa using ab⟩
section
variable {P:Program}{J:Judge P}{Q:Gs_}{b:Frame}{n:Nat}{ds:Ld_}{ops:Ao_}{k:Li_}{cs:Lf_}{L:Env}{s:St}{E E' H:LH}{S:List Seg}
variable {d:Option Tmp}{x y:Operand}{t u ty e:TypeId}{p:String}{af:Ae_}{g:On_}{v:Value}{i:Nat}{rest:List Nat}{kd:IntKind}
theorem JS.app{α:Type}{pp:Rp α}{t1 t2:TypeId}{K c:Nat}{a:Option Addr}{seg:Seg}{xs ys:List α}{xv:α}{Z:Nat}{d1:Tmp}{ats:Array TypeId}{O:TypeId}{U:String}{Y:Ae_}{g':On_}{z:Value}(j:Nat)(ac:room xs xv=some ys)
  (ae:ops[i]? =some ⟨some d1,.buildSlice t2 1 #[(0,y)],O,U,Y,g'⟩) (hw:AM L ops ⟨some d1,.buildSlice t2 1 #[(0,y)],O,U,Y,g'⟩=some true) (ag:BF b n ⟨some d1,.buildSlice t2 1 #[(0,y)],O,U,Y,g'⟩=true)
  (ah:ops[Z]? =some ⟨d,.call ⟨.builtin .append,#[x,.tmp d1],ats⟩,ty,p,af,g⟩) (ai:∀w,AM (Au L (some d1) w) ops ⟨d,.call ⟨.builtin .append,#[x,.tmp d1],ats⟩,ty,p,af,g⟩=some true) (aj:BF b n ⟨d,.call ⟨.builtin .append,#[x,.tmp d1],ats⟩,ty,p,af,g⟩=true)
  (ak:∀w,ev (Au L (some d1) w) x=some (.slice a xs.length c)) (al:ev L y=some v) (am:ats[0]? =some t) (an:ats[1]? =some t1) (ao:P.underlying t=some (.slice e)) (ap:P.underlying t1=some (.slice e)) (aq:P.underlying t2=some (.slice e)) (ar:Bl P e=some pp.n) (hb:FB P e=some K) (au:zeroOf P e=some z) (av:z.cells.size=pp.n)
  (aw:0<K) (ay:K<=64) (az:0<pp.n) (aA:pp.n<=64) (aB:OL e pp E a c seg xs) (aC:pp.r E v.cells.toList xv) (aD:Aq E H S) (aE:S[j]? =some seg)
  (h:∀w aa ab seg',OL e pp E aa ab seg' ys->Aq E H (S.set j seg')->JL J Q b n (Au (Au L (some d1) w) d (.slice aa ys.length ab)) ds (.inRegion ops rest::k) cs (Ak E H (S.set j seg'))):
  JL J Q b n L ds (.inRegion ops (i::Z::rest)::k) cs (Ak E H S):=by
 obtain⟨aF,rfl⟩:=UC ac;exact Um j ae hw ag ah ai aj ak al am an ao ap aq ar hb au av aw ay az aA aF aB aC aD aE h
theorem Bt{todo:Li_}{S':List Seg}(K:S=S')(O:Aq E H S)(h:Aq E H S'->JL J Q b n L ds todo cs (Ak E H S')):JL J Q b n L ds todo cs (Ak E H S):=by
 subst K;exact h O
theorem Qs{todo:Li_}(K:Aq E H S)(h:Aq E H (S++ [[]])->JL J Q b n L ds todo cs (Ak E H (S++ [[]]))):JL J Q b n L ds todo cs (Ak E H S):=
 HU (S':=S++ [[]]) (by rw [GY,List.append_nil]) K h
end
end Pal
namespace Pal
open Go Go.Conc
theorem Ez.K4{P:Program}{J:Judge P}{f:FuncId}{args:Av_}{s:St}{R:Value->St->Prop}(h:Ez J f args s R)(U:∀v s',R v s'->s'.q=false):Ez J f args s (λv s'=>R v s'/\∃w,Fits s' w):=λQ c cs Y=>
 h Q c cs λv s' K=>by
  by_cases O:∃w,Fits s' w
  ·exact Y v s' ⟨K,O⟩
  ·exact J.step ⟨rfl,λw f=>absurd ⟨w,f⟩ O,λe=>by have:=U v s' K;subst e;cases this⟩
def AT(l:List Nat):Nat->Bool:=λx=>l.contains x
section
variable {P:Program}{J:Judge P}{Q:Gs_}{b:Frame}{n:Nat}{ds:Ld_}{ops:Ao_}{k:Li_}{cs:Lf_}{m fuel:Nat}{D:Nat->Bool}{listed:Array Bool}{L:Env}{s:St}{E E' H:LH}{S:List Seg}
variable {d:Option Tmp}{x y:Operand}{t u ty e:TypeId}{p:String}{af:Ae_}{g:On_}{v:Value}{i:Nat}{kd:IntKind}
def F6(ops:Ao_)(listed:Array Bool)(m i:Nat):Bool:=match ops[i]? with
 | some oi=>decide (i<m)&&Region.noSelect ops&& !DG oi.op&&Iu ops listed i oi&&Hv ops listed&&listed.size==ops.size&&(Region.ready .any ops listed).contains i
 | none=>false
theorem Vq(m:Nat){id:Nat}(hm:P.follows .mixedOrders=true)(K:(b.kind != .early)=true)
  (O:Dv ops m=true) (h:Dv ops m=true->AN J Q b n ds ops k cs m C6 ops.size (Array.replicate ops.size false) L (Ak E H S)):JL J Q b n L ds (.code (.region id ops true)::k) cs (Ak E H S):=
 Ot m C6 rfl hm K (h O)
theorem QG{oi:Oper}{i:Nat}(hi:ops[i]? =some oi)(K:F6 ops listed m i=true):decide (i<m)=true/\Region.noSelect ops=true/\(!DG oi.op)=true/\Iu ops listed i oi=true/\Hv ops listed=true/\(listed.size==ops.size)=true/\(Region.ready .any ops listed).contains i=true:=by
 simp only [F6,hi,Bool.and_eq_true] at K;obtain⟨⟨⟨⟨⟨⟨O,U⟩,Y⟩,Z⟩,aa⟩,ab⟩,ac⟩:=K;exact⟨O,U,Y,Z,aa,ab,ac⟩
theorem JG.val{oi:Oper}(i:Nat)(hi:ops[i]? =some oi)(K:Dv ops m=true)(O:F6 ops listed m i=true)(U:s.q=false)
  (hw:AM L ops oi=some true) (Y:Bg n oi.dst=true) (Z:∀ρ,EG L ρ->∀s':St,(∀x o,(Br D s).E x=some o->s'.E x=some o)->Yl P oi ρ s' v)
  (h:AN J Q b n ds ops k cs m D fuel (A6 listed i) (Au L oi.dst v) s):AN J Q b n ds ops k cs m D (fuel+1) listed L s:=
 let ⟨aa,ab,ac,ae,ag,ah,ai⟩:=QG hi O
 Vd hi aa K ab ac ae ag ah ai U hw Y (λρ aj s' _ ak=>Z ρ aj s' ak) h
theorem Zk{oi:Oper}(i:Nat)(hi:ops[i]? =some oi)(K:Dv ops m=true)(O:F6 ops listed m i=true)(U:s.q=false)
  (hw:AM L ops oi=some false) (Y:Bg n oi.dst=true)
  (h:AN J Q b n ds ops k cs m D fuel (A6 listed i) (Au L oi.dst undef) s):AN J Q b n ds ops k cs m D (fuel+1) listed L s:=
 let ⟨Z,aa,ab,ac,ae,ag,ah⟩:=QG hi O
 UP hi Z K aa ab ac ae ag ah U hw Y h
theorem Yk{α:Type}{pp:Rp α}{a:Option Addr}{c:Nat}{xs:List α}{xv:α}{K:Int}(i:Nat)(Y:Al pp E a c xs)(O:ix xs K=some xv)
  (Z:ops[i]? =some ⟨d,.indexAddr t x y,ty,p,af,g⟩) (aa:Dv ops m=true) (ab:F6 ops listed m i=true) (ac:s.q=false)
  (hw:AM L ops ⟨d,.indexAddr t x y,ty,p,af,g⟩=some true) (ae:Bg n d=true)
  (ag:ev L x=some (.slice a xs.length c)) (ah:ev L y=some (.int kd K)) (ai:P.underlying t=some (.slice e)) (aj:Bl P e=some pp.n)
  (h:∀bk o ws,pp.r E ws xv->At E bk o ws->AN J Q b n ds ops k cs m D fuel (A6 listed i) (Au L d (.pointer (some ⟨bk,o,none⟩))) s):
  AN J Q b n ds ops k cs m D (fuel+1) listed L s:=by
 obtain⟨K,rfl,O⟩:=FR O;have ak:K<xs.length:=(List.getElem?_eq_some_iff.1 O).1;obtain⟨ao,⟨rfl,_⟩ | ⟨bk,off,rfl,al⟩⟩:=Y
 ·simp at ak
 obtain⟨ws,am,an⟩:=al K xv O;refine JG.val (v:= .pointer (some ⟨bk,off+K*pp.n,none⟩)) i Z aa ab ac hw ae (λρ U s' _=>?_) (h bk _ ws am an);have:=Li (P:=P) (s:=s') (d:=d) (ty:=ty) (p:=p) (af:=af) (g:=g) ai aj (U x _ ag) (U y _ ah) ⟨by omega,by omega⟩;rw [Dm rfl] at this;simpa using this
theorem JG.call{f:FuncId}{args:Array Operand}{ats:Array TypeId}{vs:Lv_}{R:Value->LH->Seg->Prop}(Y:AL J f vs E [] R)(Z:Region.ready .any ops listed= [i])
  (aa:ops[i]? =some ⟨d,.call ⟨.value (.func f),args,ats⟩,ty,p,af,g⟩) (ab:Bg n d=true) (hw:AM L ops ⟨d,.call ⟨.value (.func f),args,ats⟩,ty,p,af,g⟩=some true) (hb:De P f=true) (ac:evs L args.toList=some vs) (ae:Aq E H S)
  (ag:∀v E' seg',Le E E'->R v E' seg'->Aq E' H (S++ [seg'])->AN J Q b n ds ops k cs m C6 fuel (A6 listed i) (Au L d v) (Ak E' H (S++ [seg']))):
  AN J Q b n ds ops k cs m C6 (fuel+1) listed L (Ak E H S):=by
 have ah:=Ez.K4 (Y (Bf S.flatten H) trivial) (by rintro v s' ⟨E',B',_,_,_,rfl⟩;rfl);refine AN.call rfl Z aa ab hw hb ac ah ?_;rintro v ao ⟨⟨E',B',hle,ai,aj,rfl⟩,w,ak⟩;have e2:mk E' (Bf S.flatten H) B'=mk E' H (B'++S.flatten):=by unfold mk;rw [FQ]
 have al:Nd E' H S.flatten:=Nd.grow ae λx K=>by
  have am:=ak.d x K;have an:Bf B' (Bf S.flatten H) x=none:=am;exact(HP an).1
 have O:Nd E' H (B'++S.flatten):=Nd.glue aj al;have U:(B'++S.flatten).Perm (S++ [B']).flatten:=by rw [GY];exact List.perm_append_comm
 rw [e2,EV O U];exact⟨rfl,λx o K=>hle x o K,ag v E' B' hle ai (Nd.perm O U)⟩
end
end Pal
namespace Pal
open Go Go.Conc
theorem M3{E H:LH}{S:List Seg}{j bk:Nat}{o:Obj}{seg:Seg}(K:Aq E H S)(O:S[j]? =some ((bk,o)::seg)):E bk=none:=by
 have hm:(bk,o)∈S.flatten:=List.mem_flatten.2 ⟨_,List.mem_of_getElem? O,by simp⟩;exact((Nd.iff.1 K).2 _ hm).1
end Pal
namespace Pal
open Go Go.Conc
def H9{α:Type}(n:Int)(z:α):Option (List α):=if 0<=n/\n<=2 ^ 20 then some (List.replicate n.toNat z) else none
def Dp{α:Type}(xs ys:List α):Option (List α):=if xs.length+ys.length<=2 ^ 40 then some (xs++ys) else none
def Ic{α:Type}(xs:List α)(lo hi:Int):Option (List α):=if 0<=lo/\lo<=hi/\hi<=xs.length then some ((xs.take hi.toNat).drop lo.toNat) else none
section
variable {P:Program}{s:St}{ρ:Operand->Value}{x y z:Operand}{d:Option Tmp}{t u ty e:TypeId}{p:String}{af:Ae_}{g:On_}{v:Value}{kd kd':IntKind}{m m':Int}{a b:Nat}
end
section
variable {P:Program}{J:Judge P}{Q:Gs_}{b:Frame}{n:Nat}{ds:Ld_}{ops:Ao_}{k:Li_}{cs:Lf_}{L L':Env}{s:St}{E E' H:LH}{S:List Seg}
variable {d:Option Tmp}{x y:Operand}{t u ty e:TypeId}{p:String}{af:Ae_}{g:On_}{v:Value}{i:Nat}{rest:List Nat}{kd:IntKind}
theorem U8{ρ:Operand->Value}:execOp ρ ⟨d,.makeSlice t x y,ty,p,af,g⟩=(do pure (Next.value (← Instr.makeSlice t (ρ x) (ρ y)))):=by
 simp only [execOp]
theorem NU{α:Type}(w:List α):∀m:Nat,((List.replicate m w).flatten).length=m*w.length
 | 0=>by simp
 | m+1=>by rw [List.replicate_succ,List.flatten_cons,List.length_append,NU w m,Nat.succ_mul,Nat.add_comm]
theorem Wl(z:Av_)(O:0<z.size):∀m:Nat,((Array.range (m*z.size)).map (z[· % z.size]!)).toList=(List.replicate m z.toList).flatten:=by
 intro m;apply List.ext_getElem?;intro j;simp only [Array.toList_map,Array.toList_range,List.getElem?_map];by_cases K:j<m*z.size
 ·rw [List.getElem?_range K];have Y:j / z.size<m:=(Nat.div_lt_iff_lt_mul O).2 K;have U:j % z.size<z.size:=Nat.mod_lt _ O;have hw:(List.replicate m z.toList)[j / z.size]? =some z.toList:=by simp [Y]
  have:=J3 (n:=z.size) (wss:=List.replicate m z.toList) (λws Z=>by rw [List.eq_of_mem_replicate Z];simp) hw (j % z.size) z[j % z.size] (by simp [U]);rw [show j / z.size*z.size+j % z.size=j from by rw [Nat.mul_comm];exact Nat.div_add_mod _ _] at this;rw [this];simp [U]
 ·have hlen:((List.replicate m z.toList).flatten).length=m*z.size:=by rw [NU];simp
  rw [List.getElem?_eq_none (by simpa using K),List.getElem?_eq_none (by rw [hlen];omega)];rfl
theorem JS.make{α:Type}{pp:Rp α}{z:Value}{Z:α}{m:Int}{xs:List α}(U:H9 m Z=some xs)
  (ai:ops[i]? =some ⟨d,.makeSlice t x y,ty,p,af,g⟩) (hw:AM L ops ⟨d,.makeSlice t x y,ty,p,af,g⟩=some true) (aj:BF b n ⟨d,.makeSlice t x y,ty,p,af,g⟩=true)
  (ak:ev L x=some (iV m)) (Y:ev L y=some (iV m)) (al:P.underlying t=some (.slice e)) (am:Bl P e=some pp.n) {O:Nat} (hb:FB P e=some O) (aA:O<=64) (an:zeroOf P e=some z) (aB:0<pp.n) (aa:pp.r E z.cells.toList Z) (ao:Aq E H S)
  (h:∀r seg,OL e pp E (some ⟨r,0,none⟩) xs.length seg xs->Aq E H (S++ [seg])->JL J Q b n (Au L d (.slice (some ⟨r,0,none⟩) xs.length xs.length)) ds (.inRegion ops rest::k) cs (Ak E H (S++ [seg]))):
  JL J Q b n L ds (.inRegion ops (i::rest)::k) cs (Ak E H S):=by
 unfold H9 at U;split at U
 rotate_left
 ·cases U
 rename_i hm;cases U;refine JL.op ai hw aj λρ ab=>?_;rw [U8,ab x _ ak,ab y _ Y];refine As _ _ ?_;unfold Instr.makeSlice;refine As _ _ (Ce al ?_);simp only [asInt,HQ];obtain⟨inf,ap,aq⟩:=Ob hb;refine As (x:=typeInfo e) _ (JZ ap ?_);simp only [aq,Jg (show -9223372036854775808<=m/\m<=9223372036854775807 by omega)];have aC:(O:Int)*m<=64*2 ^ 20:=by
  have ac:(O:Int)*m<=64*m:=Int.mul_le_mul_of_nonneg_right (by omega) hm.1;omega
 have ar:((decide (m<0) || decide ((O:Int)*m>2 ^ 48)) || decide (m<0) || decide (m>m))=false:=by
  simp only [Bool.or_eq_false_iff,decide_eq_false_iff_not];omega
 rw [ar];simp only [Bool.false_eq_true,if_false];refine As (x:=askRoom _) _ ?_;have au:∀{Q:Unit->St->Prop} {X:Halt->St->Prop} (w:Nat),Q () (Ak E H S)->lp P (askRoom w) (Ak E H S) Q X:=by
  intro Q X w ae;unfold askRoom;split
  ·exact⟨.inl ⟨rfl,rfl⟩,ae⟩
  ·exact ae
 refine au _ (As (x:=Go.sizeOf e) _ (ED am ?_));have ag:z.cells.size=pp.n:=by simpa using pp.len aa
 have fin:∀K:Av_,((Array.range (m.toNat*pp.n)).map (K[· % K.size]!)).toList=(List.replicate m.toNat z.cells.toList).flatten->lp P (do let a ← newRow e ((Array.range (m.toNat*pp.n)).map (K[· % K.size]!));pure (Value.slice (some a) m.toNat m.toNat)) (Ak E H S) (λa s'=>lp P (pure (Next.value a)) s' (λav s'=>match av with
   | .value v=>JL J Q b n (Au L d v) ds (.inRegion ops rest::k) cs s'
   | .skip=>JL J Q b n (Au L d undef) ds (.inRegion ops rest::k) cs s'
   | _=>False) (λ_ _=>False)) (λ_ _=>False):=by
  intro K aw;refine As _ _ (IQ ao λr ah=>?_);rw [(Fv ah).1];have aD:((Array.range (m.toNat*pp.n)).map (K[· % K.size]!)).size=m.toNat*pp.n:=by simp
  have:=h r _ ⟨List.replicate m.toNat z.cells.toList,.inr ⟨r,_,rfl,rfl,by simp,by simp,by
   rw [aw,List.take_of_length_le (by rw [NU];simp [ag])]⟩,by simp,λi y us Y hu=>by
    have:=List.mem_of_getElem? Y;have ay:=List.eq_of_mem_replicate this
    have:=List.mem_of_getElem? hu;have e2:=List.eq_of_mem_replicate this
    subst ay e2;exact aa⟩ (Fv ah).2
  simp only [List.length_replicate] at this;exact this
 split
 ·rename_i az;have ac:m.toNat=0:=by rcases Nat.mul_eq_zero.1 az with h | h <;> omega
  exact fin #[] (by simp [ac])
 ·refine As (x:=zeroValue e) _ (Hm an ?_);refine fin z.cells ?_;rw [← ag];exact Wl z.cells (by omega) _
theorem Oz{α:Type}{pp:Rp α}(O:ops[i]? =some ⟨d,.buildSlice t 0 #[],ty,p,af,g⟩)(hw:AM L ops ⟨d,.buildSlice t 0 #[],ty,p,af,g⟩=some true)(U:BF b n ⟨d,.buildSlice t 0 #[],ty,p,af,g⟩=true)
  (Y:P.underlying t=some (.slice e)) (Z:Bl P e=some pp.n) (aa:Aq E H S)
  (h:∀r seg,OL e pp E (some ⟨r,0,none⟩) 0 seg []->Aq E H (S++ [seg])->JL J Q b n (Au L d (.slice (some ⟨r,0,none⟩) 0 0)) ds (.inRegion ops rest::k) cs (Ak E H (S++ [seg]))):
  JL J Q b n L ds (.inRegion ops (i::rest)::k) cs (Ak E H S):=by
 refine JL.op O hw U λρ ac=>?_;rw [QA];refine As _ _ ?_;unfold Instr.buildSlice;refine As _ _ (Ce Y ?_);refine As _ _ (ED Z ?_);rw [if_neg (by omega),if_pos (by omega)];refine As (x:=pure #[]) _ ?_;simp only [lp,pure,List.map_toArray,List.map_nil,Instr.fill];refine As _ _ (IQ aa λr K=>?_);rw [(Fv K).1];exact h r _ ⟨[],.inr ⟨r,_,rfl,rfl,by simp,Nat.le_refl _,by simp⟩,rfl,λi x ws ab=>by simp at ab⟩ (Fv K).2
theorem Al.rows{α:Type}{pp:Rp α}{a:Option Addr}{c:Nat}{xs:List α}(U:Al pp E a c xs):∃wss:List (Lv_),wss.length=xs.length/\(∀(i:Nat) x ws,xs[i]? =some x->wss[i]? =some ws->pp.r E ws x)/\
  ((xs= []/\∀ad:Addr,a=some ad->ad.spot=none∨c=0)∨∃bk off,a=some ⟨bk,off,none⟩/\∀(i:Nat) ws,wss[i]? =some ws->At E bk (off+i*pp.n) ws):=by
 obtain⟨ab,U⟩:=U;rcases U with⟨rfl,Z⟩ | ⟨bk,off,rfl,aa⟩
 ·exact⟨[],rfl,λi x ws O=>by simp at O,.inl ⟨rfl,Z⟩⟩
 ·have Y:∀i:Fin xs.length,∃ws,pp.r E ws xs[i]/\At E bk (off+i*pp.n) ws:=λi=>aa i xs[i] (List.getElem?_eq_getElem i.2);refine⟨List.ofFn λi=>Classical.choose (Y i),by simp,λi x ws O hw=>?_,.inr ⟨bk,off,rfl,λi ws hw=>?_⟩⟩
  ·have K:i<xs.length:=(List.getElem?_eq_some_iff.1 O).1;simp [K] at hw;subst hw;rw [List.getElem?_eq_getElem K] at O;cases O;exact(Classical.choose_spec (Y ⟨i,K⟩)).1
  ·have K:i<xs.length:=by have:=(List.getElem?_eq_some_iff.1 hw).1;simpa using this
   simp [K] at hw;subst hw;exact(Classical.choose_spec (Y ⟨i,K⟩)).2
theorem Lc{n:Nat}:∀{wss:List (Lv_)},(∀ws∈wss,ws.length=n)->wss.flatten.length=wss.length*n
 | [],_=>by simp
 | ws::wss,h=>by rw [List.flatten_cons,List.length_append,h ws (by simp),Lc λw hw=>h w (List.mem_cons_of_mem _ hw),List.length_cons,Nat.succ_mul,Nat.add_comm]
theorem NW{n:Nat}:∀{wss:List (Lv_)},(∀ws∈wss,ws.length=n)->∀{j:Nat} {w:Value},wss.flatten[j]? =some w->∃(i m:Nat) (ws:Lv_),wss[i]? =some ws/\ws[m]? =some w/\j=i*n+m
 | [],_,_,_,h=>by simp at h
 | us::wss,O,j,w,h=>by
  have hu:=O us (by simp)
  rw [List.flatten_cons] at h
  rcases Nat.lt_or_ge j us.length with K | K
  ·rw [List.getElem?_append_left K] at h
   exact⟨0,j,us,rfl,h,by simp⟩
  ·rw [List.getElem?_append_right K] at h;obtain⟨i,m,ws,U,Y,Z⟩:=NW (λws hw=>O ws (List.mem_cons_of_mem _ hw)) h;exact⟨i+1,m,ws,by simpa using U,Y,by rw [Nat.succ_mul];omega⟩
theorem Mq{α:Type}{pp:Rp α}{wss O:List (Lv_)}{xs ys:List α}(U:wss.length=xs.length)(h:∀(i:Nat) x ws,xs[i]? =some x->wss[i]? =some ws->pp.r E ws x)(Y:∀(i:Nat) x ws,ys[i]? =some x->O[i]? =some ws->pp.r E ws x):
  ∀(i:Nat) y us,(xs++ys)[i]? =some y->(wss++O)[i]? =some us->pp.r E us y:=by
 intro i y us K hu;rcases Nat.lt_or_ge i xs.length with hi | hi
 ·rw [List.getElem?_append_left hi] at K;rw [List.getElem?_append_left (by omega)] at hu;exact h i y us K hu
 ·rw [List.getElem?_append_right hi] at K;rw [List.getElem?_append_right (by omega),U] at hu;exact Y _ y us K hu
variable {B0:List (Nat×Obj)}
theorem Ua{e t t1:TypeId}{Z al l c m:Nat}{a:Option Addr}{blk:List (Nat×Obj)}{xs ys:Lv_}{i:Nat}{rest:List Nat}{d:Option Tmp}{x y:Operand}{ats:Array TypeId}{ty:TypeId}{p:String}{af:Ae_}{g:On_}{z:Value}{ax:Option Addr}{cx:Nat}{B1:List (Nat×Obj)}
  (aw:ops[i]? =some ⟨d,.call ⟨.builtin .append,#[x,y],ats⟩,ty,p,af,g⟩) (hw:AM L ops ⟨d,.call ⟨.builtin .append,#[x,y],ats⟩,ty,p,af,g⟩=some true) (ay:BF b n ⟨d,.call ⟨.builtin .append,#[x,y],ats⟩,ty,p,af,g⟩=true)
  (az:ev L x=some (.slice a l c)) (aA:ev L y=some (.slice ax m cx)) (aB:ats[0]? =some t) (aC:ats[1]? =some t1) (aD:P.underlying t=some (.slice e)) (aE:P.underlying t1=some (.slice e)) (aF:Bl P e=some Z) (hb:FB P e=some al) (aG:zeroOf P e=some z) (aH:z.cells.size=Z)
  (aI:0<al) (aJ:al<=64) (aK:l+m<=2 ^ 40) (aL:∀w∈ys,CU w=true) (ai:GS e Z a l c blk xs) (am:Nd E H (B0++blk++B1)) (an:HA (mk E H (B0++blk++B1)) (.slice ax m cx) Z ys)
  (h:∀ar aj ao,GS e Z ar (l+m) aj ao (xs++ys)->Nd E H (B0++ao)->JL J Q b n (Au L d (.slice ar (l+m) aj)) ds (.inRegion ops rest::k) cs (mk E H (B0++ao))):
  JL J Q b n L ds (.inRegion ops (i::rest)::k) cs (mk E H (B0++blk++B1)):=by
 refine JL.op aw hw ay λρ au=>?_;rw [Lb,au x _ az,au y _ aA];have aM:No (B0++blk++B1) B0.length e Z a l c xs:=by
  rcases ai with⟨K,Y,ac,ae,aa⟩ | ⟨bk,f,K,Y,ac,ae,aa⟩
  ·exact .inl ⟨K,Y,ac,aa⟩
  ·refine .inr ⟨bk,f,K,?_,ac,ae,aa⟩;subst Y;simp
 have hlen:=ai.length;refine As _ _ (N7 (pl:=B0.length) aB aC aE aD aF hb aG aH am aM an aL aI aK aJ ?_ ?_ ?_)
 ·
  intro bk f O ak aS aT aN ap aq ab;rcases ai with⟨K,_⟩ | ⟨U,f0,K,Y,ac,ae,aa⟩
  ·rw [K] at ak;cases ak
  ·subst Y;have aO:U=bk:=by rw [K] at ak;simpa using ak
   subst aO;have aP:(B0++ [(U,Obj.cells f0 e (0,0))]++B1).set B0.length (U,.cells O e (0,0))=B0++ [(U,.cells O e (0,0))]++B1:=by
    rw [List.append_assoc,List.append_assoc];exact IY _ _ _ _
   rw [aP] at ab ⊢;have ag:Nd E H (B0++ [(U,.cells O e (0,0))]):=J1.Nd.left ab;refine JL.drop (B0++ [(U,.cells O e (0,0))]) (λp ah=>?_) ab (h a c _ (.inr ⟨U,O,K,rfl,ap,aN,aq.symm⟩) ag);exact List.mem_iff_getElem?.1 (List.mem_append_left _ ah)
 ·intro av hm;rcases ai with⟨K,Y,ac,ae,aa⟩ | ⟨U,f0,K,_⟩
  ·subst hm;have aQ:ys= []:=by
    cases ax with
    | none=>exact an.2
    | some ad=>have:=an.2.1;simp at this;exact this
   subst Y ae aa aQ;have ag:Nd E H (B0++ []):=J1.Nd.left am;exact JL.drop (B0++ []) (λp ah=>List.mem_iff_getElem?.1 (List.mem_append_left _ ah)) am (h none 0 [] (by simpa using GS.nil) ag)
  ·rw [K] at av;cases av
 ·
  intro r O aj aR ap aq ab;have ag:Nd E H (B0++ [(r,.cells O e (0,0))]):=J1.Nd.pick ab;refine JL.drop (B0++ [(r,.cells O e (0,0))]) (λp ah=>?_) ab (h (some ⟨r,0,none⟩) aj _ (.inr ⟨r,O,rfl,rfl,ap,aR,aq.symm⟩) ag);refine List.mem_iff_getElem?.1 ?_;rcases List.mem_append.1 ah with q | q
  ·simp [q]
  ·exact List.mem_append_right _ q
theorem IW{α:Type}{pp:Rp α}{t1:TypeId}{ac c cx:Nat}{a ax:Option Addr}{seg:Seg}{xs ys ae:List α}{ats:Array TypeId}{z:Value}(j:Nat)(Y:Dp xs ys=some ae)
  (ao:ops[i]? =some ⟨d,.call ⟨.builtin .append,#[x,y],ats⟩,ty,p,af,g⟩) (hw:AM L ops ⟨d,.call ⟨.builtin .append,#[x,y],ats⟩,ty,p,af,g⟩=some true) (ap:BF b n ⟨d,.call ⟨.builtin .append,#[x,y],ats⟩,ty,p,af,g⟩=true)
  (aq:ev L x=some (.slice a xs.length c)) (ar:ev L y=some (.slice ax ys.length cx)) (au:ats[0]? =some t) (av:ats[1]? =some t1) (aw:P.underlying t=some (.slice e)) (ay:P.underlying t1=some (.slice e)) (az:Bl P e=some pp.n) (hb:FB P e=some ac) (aA:zeroOf P e=some z) (aB:z.cells.size=pp.n)
  (aC:0<ac) (aD:ac<=64) (ag:OL e pp E a c seg xs) (ai:Al pp E ax cx ys) (aE:Aq E H S) (aj:S[j]? =some seg)
  (h:∀Z aa seg',OL e pp E Z aa seg' ae->Aq E H (S.set j seg')->JL J Q b n (Au L d (.slice Z ae.length aa)) ds (.inRegion ops rest::k) cs (Ak E H (S.set j seg'))):
  JL J Q b n L ds (.inRegion ops (i::rest)::k) cs (Ak E H S):=by
 unfold Dp at Y;split at Y
 rotate_left
 ·cases Y
 rename_i aF;cases Y;obtain⟨wss,ag,ak,aG⟩:=ag;obtain⟨aH,al⟩:=G0 aE aj;obtain⟨ab,O,ah,U⟩:=ai.rows;have am:=HW O ah;rw [aH];have aI:∀w∈ab.flatten,CU w=true:=λw hw=>by
  obtain⟨us,aJ,hw⟩:=List.mem_flatten.1 hw;obtain⟨q,K⟩:=List.mem_iff_getElem?.1 aJ;have aK:q<ys.length:=by rw [← O];exact(List.getElem?_eq_some_iff.1 K).1
  exact pp.one (ah q _ us (List.getElem?_eq_getElem aK) K) w hw
 have hlen:(xs++ys).length=xs.length+ys.length:=by simp
 have an:HA (mk E H ((S.set j []).flatten++seg)) (.slice ax ys.length cx) pp.n ab.flatten:=by
  rcases U with⟨U,aU⟩ | ⟨bk,off,rfl,U⟩
  ·subst U;have:ab= []:=List.eq_nil_of_length_eq_zero O;subst this;cases ax with
   | none=>exact⟨rfl,rfl⟩
   | some ad=>exact⟨.inr rfl,by simp,Nat.zero_le _,λq w K=>by simp at K⟩
  ·refine⟨.inl rfl,by rw [Lc am,O],ai.1,λq w K=>?_⟩;obtain⟨aL,m,ws,aM,e2,aN⟩:=NW am K;have:=(U aL ws aM).cell (H:=H) (B:=(S.set j []).flatten++seg) e2;subst aN;rw [← Nat.add_assoc];exact this
 have aO:(S.set j []).flatten++seg=(S.set j []).flatten++seg++ []:=(List.append_nil _).symm;rw [aO] at al an ⊢;refine Ua ao hw ap aq ar au av aw ay az hb aA aB aC aD aF aI ag al an λZ aa aP aQ aR=>?_;obtain⟨aS,aT⟩:=I0 aj aR;rw [aS];have:=h Z aa aP ⟨wss++ab,by rw [hlen,List.flatten_append];exact aQ,by simp [ak,O],Mq ak aG ah⟩ aT;rw [hlen] at this;exact this
end
end Pal
namespace Pal
open Go Go.Conc
section
variable {P:Program}{J:Judge P}{Q:Gs_}{b:Frame}{n:Nat}{ds:Ld_}{ops:Ao_}{k:Li_}{cs:Lf_}{m fuel:Nat}{D:Nat->Bool}{listed:Array Bool}{L L':Env}{s:St}{E E' H:LH}{S:List Seg}
variable {d:Option Tmp}{x y:Operand}{t u ty e:TypeId}{p:String}{af:Ae_}{g:On_}{v:Value}{i:Nat}{rest:List Nat}{kd:IntKind}
theorem DY(h:Sub L' L)(k':AN J Q b n ds ops k cs m D fuel listed L' s):AN J Q b n ds ops k cs m D fuel listed L s:=λT K=>k' T (K.sub h)
theorem Gg{K:Nat}{O:Array Bool}(fuel:Nat)(listed:Array Bool)(I:Env->St->Prop)(U:∀L s,I L s->AN J Q b n ds ops k cs m D fuel listed L s)(h:(∀L s,I L s->AN J Q b n ds ops k cs m D fuel listed L s)->AN J Q b n ds ops k cs m D K O L s):AN J Q b n ds ops k cs m D K O L s:=h U
end
theorem At.tail{E:LH}{bk o:Nat}{l ws:Lv_}(h:At E bk o (l++ws)):At E bk (o+l.length) ws:=by
 obtain⟨f,e,fr,K,O⟩:=h;refine⟨f,e,fr,K,λj w U=>?_⟩;rw [Nat.add_assoc];refine O _ _ ?_;rw [List.getElem?_append_right (by omega)];rw [show l.length+j - l.length=j by omega];exact U
theorem S9{α:Type}{kk:Nat}{pp:Rp α}{E:LH}{bk o:Nat}{ws:Lv_}{xs:List α}{m:Int}{x:α}(O:(rA kk pp).r E ws xs)(h:At E bk o ws)(hm:ix xs m=some x):∃us,pp.r E us x/\At E bk (o+m.toNat*pp.n) us/\0<=m/\m<kk:=by
 obtain⟨U,wss,rfl,Y,K⟩:=O;obtain⟨m,rfl,hm⟩:=FR hm;have ab:m<xs.length:=(List.getElem?_eq_some_iff.1 hm).1;have hw:wss[m]? =some wss[m]:=List.getElem?_eq_getElem (by omega);refine⟨wss[m],K m x _ hm hw,?_,by omega,by omega⟩;obtain⟨f,e,fr,Z,g2⟩:=h;refine⟨f,e,fr,Z,λj w aa=>?_⟩;rw [Nat.add_assoc];exact g2 _ _ (J3 (HW (Y.trans U.symm) K) hw j w aa)
section
variable {P:Program}{s:St}{ρ:Operand->Value}{x y z:Operand}{d:Option Tmp}{t u ty e:TypeId}{p:String}{af:Ae_}{g:On_}{v v':Value}
end
end Pal
namespace Pal
open Go Go.Conc
section
variable {P:Program}{J:Judge P}{Q:Gs_}{b:Frame}{n:Nat}{ds:Ld_}{ops:Ao_}{k:Li_}{cs:Lf_}{L:Env}{E H:LH}{S:List Seg}
variable {d:Option Tmp}{x y:Operand}{t u ty e:TypeId}{p:String}{af:Ae_}{g:On_}{i:Nat}{rest:List Nat}{kd:IntKind}
end
end Pal
namespace Pal
open Go Go.Conc
section
variable {P:Program}{s:St}{ρ:Operand->Value}{x y z:Operand}{d:Option Tmp}{t u ty e:TypeId}{p:String}{af:Ae_}{g:On_}{v v':Value}
theorem QC{o:BinOp}{c K:Av_}(O:o= .eql∨o= .neq)(U:P.eqGuardType P.depth t=false){Q:Unit->St->Prop}{X:Halt->St->Prop}(k:Q () s):lp P (eqGuard o t x y (.agg c) (.agg K)) s Q X:=by
 rcases O with rfl | rfl <;> (simp [eqGuard,lp,bind,Sem.bind,program,pure,U];exact k)
end
end Pal
namespace Pal
open Go Go.Conc
section
variable {P:Program}(J:Judge P)(Q:Gs_)(b:Frame)(n:Nat)(ds:Ld_)(ops:Ao_)(k:Li_)(cs:Lf_)(m:Nat)(D:Nat->Bool)
def Take(fuel:Nat)(listed:Array Bool)(L:Env)(s:St)(i:Nat):Prop:=
 ∃o,ops[i]? =some o/\(!DG o.op)=true/\Bg n o.dst=true/\AM L ops o=some true/\∀ρ,EG L ρ->lp P (execOp ρ o) (Br D s) (λO s'=>match O with
  | .value v=>AN J Q b n ds ops k cs m D fuel (A6 listed i) (Au L o.dst v) (Ck D s s')
  | .skip=>AN J Q b n ds ops k cs m D fuel (A6 listed i) (Au L o.dst undef) (Ck D s s')
  | .enter f args=>∃R,Ez J f args (Ck D s s') R/\∀v K,R v K->K.q=false/\(∀x o,(Br D s).E x=some o->(Br D K).E x=some o)/\AN J Q b n ds ops k cs m D fuel (A6 listed i) (Au L o.dst v) K
  | _=>False) (λ_ _=>False)
end
section
variable {P:Program}{J:Judge P}{Q:Gs_}{b:Frame}{n:Nat}{ds:Ld_}{ops:Ao_}{k:Li_}{cs:Lf_}{m fuel:Nat}{D:Nat->Bool}{listed:Array Bool}{L:Env}{s:St}{E E' H:LH}{S:List Seg}
variable {d:Option Tmp}{x y:Operand}{t u ty e:TypeId}{p:String}{af:Ae_}{g:On_}{v:Value}{i:Nat}{kd:IntKind}
theorem N1(U:s.q=false){l:List Nat}(K:Region.ready .any ops listed=l)(Y:l≠ [])(h:∀i∈l,Take J Q b n ds ops k cs m D fuel listed L s i):AN J Q b n ds ops k cs m D (fuel+1) listed L s:=
 Q7 U (by rw [K];exact Y) λi hi o O=>by
  rw [K] at hi
  obtain⟨o',Z,aa,ab,ac,ae⟩:=h i hi
  obtain rfl:o'=o:=by rw [Z] at O;exact Option.some.inj O
  exact⟨aa,ab,true,ac,λe=>(by cases e),λ_=>ae⟩
theorem JG.one(K:s.q=false)(O:Region.ready .any ops listed= [i])(h:Take J Q b n ds ops k cs m D fuel listed L s i):AN J Q b n ds ops k cs m D (fuel+1) listed L s:=
 N1 K O (by simp) (by simpa using h)
theorem F0{i j:Nat}(K:s.q=false)(O:Region.ready .any ops listed= [i,j])(hi:Take J Q b n ds ops k cs m D fuel listed L s i)(U:Take J Q b n ds ops k cs m D fuel listed L s j):AN J Q b n ds ops k cs m D (fuel+1) listed L s:=
 N1 K O (by simp) (by intro q K;simp at K;rcases K with rfl | rfl <;> assumption)
end
end Pal
namespace Pal
open Go Go.Conc
theorem OL.Zq{α:Type}{e:TypeId}{pp:Rp α}{E0 E H:LH}{S:List Seg}{a:Option Addr}{c j:Nat}{seg:Seg}{xs:List α}(U:OL e pp E0 a c seg xs)(aa:Aq E H S)(ab:S[j]? =some seg):∃wss:List (Lv_),HA (Ak E H S) (.slice a xs.length c) pp.n wss.flatten/\wss.length=xs.length/\∀(i:Nat) x ws,xs[i]? =some x->wss[i]? =some ws->pp.r E0 ws x:=by
 obtain⟨wss,U,ac,ae⟩:=U;refine⟨wss,?_,ac,ae⟩;rcases U with⟨rfl,ag,Z,Y,K⟩ | ⟨bk,f,rfl,rfl,Z,Y,K⟩
 ·exact⟨ag,K⟩
 ·have hle:xs.length*pp.n<=f.size:=by rw [Z];exact Nat.mul_le_mul_right _ Y
  refine⟨.inl rfl,by rw [K];simp [hle],Y,λq w O=>?_⟩;rw [K,List.getElem?_take] at O;split at O
  ·refine BL aa ab ?_;simpa using O
  ·cases O
section
variable {P:Program}{E H:LH}{S:List Seg}{d:Option Tmp}{x y:Operand}{t ty e:TypeId}{p:String}{af:Ae_}{g:On_}
theorem W1{E0:LH}{ρ:Operand->Value}{K:Next->St->Prop}{α:Type}{pp:Rp α}{t1:TypeId}{an c cx:Nat}{a ax:Option Addr}{seg:Seg}{xs ys ao:List α}{ats:Array TypeId}{z:Value}(j:Nat)(ak:Dp xs ys=some ao)
  (aC:ρ x= .slice a xs.length c) (aD:ρ y= .slice ax ys.length cx) (aE:ats[0]? =some t) (aF:ats[1]? =some t1) (aG:P.underlying t=some (.slice e)) (aH:P.underlying t1=some (.slice e)) (aI:Bl P e=some pp.n) (hb:FB P e=some an) (aJ:zeroOf P e=some z) (aK:z.cells.size=pp.n)
  (aL:0<an) (aM:an<=64) (ai:OL e pp E0 a c seg xs) (aN:∃Z:List (Lv_),HA (Ak E H S) (.slice ax ys.length cx) pp.n Z.flatten/\Z.length=ys.length/\∀(i:Nat) x ws,ys[i]? =some x->Z[i]? =some ws->pp.r E0 ws x) (aO:Aq E H S) (aw:S[j]? =some seg)
  (h:∀Y O g seg',OL e pp E0 Y O seg' ao->Aq E H (S.set j (g++seg'))->K (.value (.slice Y ao.length O)) (Ak E H (S.set j (g++seg')))):
  lp P (execOp ρ ⟨d,.call ⟨.builtin .append,#[x,y],ats⟩,ty,p,af,g⟩) (Ak E H S) K (λ_ _=>False):=by
 unfold Dp at ak;split at ak
 rotate_left
 ·cases ak
 rename_i aP;cases ak;obtain⟨Z,ay,al,ap⟩:=aN;obtain⟨wss,ai,az,aQ⟩:=ai;obtain⟨aR,aq⟩:=G0 aO aw;have aS:=HW al ap;have aT:∀w∈Z.flatten,CU w=true:=λw hw=>by
  obtain⟨us,aU,hw⟩:=List.mem_flatten.1 hw;obtain⟨q,aA⟩:=List.mem_iff_getElem?.1 aU;have aV:q<ys.length:=by rw [← al];exact(List.getElem?_eq_some_iff.1 aA).1
  exact pp.one (ap q _ us (List.getElem?_eq_getElem aV) aA) w hw
 have hlen:(xs++ys).length=xs.length+ys.length:=by simp
 rw [aR] at ay ⊢;rw [Lb,aC,aD];have ar:∀{Y O seg'},GS e pp.n Y (xs.length+ys.length) O seg' (wss.flatten++Z.flatten)->OL e pp E0 Y O seg' (xs++ys):=λaW=>
  ⟨wss++Z,by rw [hlen,List.flatten_append];exact aW,by simp [az,al],Mq az aQ ap⟩
 have fin:∀Y O g seg',OL e pp E0 Y O seg' (xs++ys)->Nd E H ((S.set j []).flatten++(g++seg'))->K (.value (.slice Y (xs.length+ys.length) O)) (mk E H ((S.set j []).flatten++(g++seg'))):=λY O g seg' aX ab=>by
  obtain⟨aY,aZ⟩:=I0 aw ab;rw [aY];have:=h Y O g seg' aX aZ;rw [hlen] at this;exact this
 have a0:No ((S.set j []).flatten++seg) (S.set j []).flatten.length e pp.n a xs.length c wss.flatten:=by
  rcases ai with⟨U,aa,aj,ae,ag⟩ | ⟨bk,f,U,aa,aj,ae,ag⟩
  ·exact .inl ⟨U,aa,aj,ag⟩
  ·refine .inr ⟨bk,f,U,?_,aj,ae,ag⟩;subst aa;simp
 refine As _ _ (N7 (pl:=(S.set j []).flatten.length) aE aF aH aG aI hb aJ aK aq a0 ay aT aL aP aM ?_ ?_ ?_)
 ·intro bk f ac am a7 a8 a1 au av ab;rcases ai with⟨U,_⟩ | ⟨ah,f0,U,aa,aj,ae,ag⟩
  ·rw [U] at am;cases am
  ·subst aa;have a2:ah=bk:=by rw [U] at am;simpa using am
   subst a2;have a3:((S.set j []).flatten++ [(ah,Obj.cells f0 e (0,0))]).set (S.set j []).flatten.length (ah,.cells ac e (0,0))=(S.set j []).flatten++ [(ah,.cells ac e (0,0))]:=IY _ _ _ _;rw [a3] at ab ⊢;exact fin a c [] _ (ar (.inr ⟨ah,ac,U,rfl,au,a1,av.symm⟩)) ab
 ·intro aB hm;rcases ai with⟨U,aa,aj,ae,ag⟩ | ⟨ah,f0,U,_⟩
  ·have a4:Z.flatten= []:=List.eq_nil_of_length_eq_zero (by rw [Lc aS,al,hm];simp);have:=fin none 0 [] [] (ar (by rw [aa,hm,ag,a4];exact GS.nil)) (by rw [ae] at aq;simpa using aq);rw [aa,hm] at this;rw [ae];simp only [List.append_nil] at this ⊢;exact this
  ·rw [U] at aB;cases aB
 ·intro r ac O a5 au av ab;have a6:(S.set j []).flatten++seg++ [(r,Obj.cells ac e (0,0))]=(S.set j []).flatten++(seg++ [(r,.cells ac e (0,0))]):=List.append_assoc _ _ _;rw [a6] at ab ⊢;exact fin (some ⟨r,0,none⟩) O seg _ (ar (.inr ⟨r,ac,rfl,rfl,au,a5,av.symm⟩)) ab
theorem WY{E0:LH}{ρ:Operand->Value}{K:Next->St->Prop}{α:Type}{pp:Rp α}{t1:TypeId}{O c cx:Nat}{a ax:Option Addr}{seg Y:Seg}{xs ys U:List α}{ats:Array TypeId}{z:Value}(j ac:Nat)(ae:Dp xs ys=some U)
  (ag:ρ x= .slice a xs.length c) (ah:ρ y= .slice ax ys.length cx) (ai:ats[0]? =some t) (aj:ats[1]? =some t1) (ak:P.underlying t=some (.slice e)) (al:P.underlying t1=some (.slice e)) (am:Bl P e=some pp.n) (hb:FB P e=some O) (an:zeroOf P e=some z) (ao:z.cells.size=pp.n)
  (ap:0<O) (aq:O<=64) (ar:OL e pp E0 a c seg xs) (au:OL e pp E0 ax cx Y ys) (Z:Aq E H S) (av:S[j]? =some seg) (aw:S[ac]? =some Y)
  (h:∀aa ab g seg',OL e pp E0 aa ab seg' U->Aq E H (S.set j (g++seg'))->K (.value (.slice aa U.length ab)) (Ak E H (S.set j (g++seg')))):
  lp P (execOp ρ ⟨d,.call ⟨.builtin .append,#[x,y],ats⟩,ty,p,af,g⟩) (Ak E H S) K (λ_ _=>False):=
 W1 j ae ag ah ai aj ak al am hb an ao ap aq ar (au.Zq Z aw) Z av h
end
section
variable {P:Program}{J:Judge P}{Q:Gs_}{b:Frame}{n:Nat}{ds:Ld_}{ops:Ao_}{k:Li_}{cs:Lf_}{m fuel:Nat}{D:Nat->Bool}{listed:Array Bool}{L:Env}{s:St}{E E' H:LH}{S:List Seg}
variable {d:Option Tmp}{x y:Operand}{t u ty e:TypeId}{p:String}{af:Ae_}{g:On_}{v:Value}{i:Nat}{kd:IntKind}
end
end Pal
namespace Pal
open Go Go.Conc
section
variable {P:Program}{J:Judge P}{Q:Gs_}{b:Frame}{n:Nat}{ds:Ld_}{ops:Ao_}{k:Li_}{cs:Lf_}{m fuel:Nat}{D:Nat->Bool}{listed:Array Bool}{L:Env}{s:St}{E E' H:LH}{S:List Seg}
variable {d:Option Tmp}{x y:Operand}{t u ty e:TypeId}{p:String}{af:Ae_}{g:On_}{v:Value}{i:Nat}{kd:IntKind}
theorem Take.L3{oi:Oper}(hi:ops[i]? =some oi)(K:(!DG oi.op&&Bg n oi.dst)=true)(hw:AM L ops oi=some true)
  (h:∀ρ,EG L ρ->lp P (execOp ρ oi) s (λO s'=>match O with
   | .value v=>AN J Q b n ds ops k cs m C6 fuel (A6 listed i) (Au L oi.dst v) s'
   | .skip=>AN J Q b n ds ops k cs m C6 fuel (A6 listed i) (Au L oi.dst undef) s'
   | _=>False) (λ_ _=>False)):Take J Q b n ds ops k cs m C6 fuel listed L s i:=by
 simp only [Bool.and_eq_true] at K
 refine⟨oi,hi,K.1,K.2,hw,λρ Y=>Ec _ (h ρ Y) ?_ (λ_ _ h=>h)⟩
 intro O s' U
 cases O with
 | value v=>exact U
 | skip=>exact U
 | _=>exact U.elim
theorem Take.EH{α:Type}{pp:Rp α}{len:Nat}{K:Array (Nat×Operand)}(vs:Lv_){z:Value}(xs:List α)(O:Aq E H S)
  (U:ops[i]? =some ⟨d,.buildSlice t len K,ty,p,af,g⟩) (hw:AM L ops ⟨d,.buildSlice t len K,ty,p,af,g⟩=some true) (Y:Bg n d=true)
  (Z:P.underlying t=some (.slice e)) (aa:Bl P e=some pp.n) (ab:zeroOf P e=some z) (ac:decide (0<len*pp.n/\len*pp.n<=2 ^ 24)=true)
  (ae:K.toList.mapM (λq=>(ev L q.2).map λv=>(q.1,v))=some ((vs.zipIdx 0).map λq=>(q.2,q.1)))
  (ag:vs.length=len) (ah:xs.length=len) (ai:Km pp E xs vs)
  (h:∀r seg,OL e pp E (some ⟨r,0,none⟩) len seg xs->Aq E H (S++ [seg])->AN J Q b n ds ops k cs m C6 fuel (A6 listed i) (Au L d (.slice (some ⟨r,0,none⟩) xs.length len)) (Ak E H (S++ [seg]))):
  Take J Q b n ds ops k cs m C6 fuel listed L (Ak E H S) i:=
 Take.L3 U (by simp [DG,Y]) hw λρ aj=>SH aj vs xs Z aa ab ac ae ag ah ai O λr seg ak al=>h r seg ak al
theorem Take.app0{α:Type}{pp:Rp α}{t1:TypeId}{U c cx:Nat}{a ax:Option Addr}{seg Z:Seg}{xs ys Y:List α}{ats:Array TypeId}{z:Value}(j aa:Nat)(ac:Aq E H S)(ae:Dp xs ys=some Y)
  (ag:ops[i]? =some ⟨d,.call ⟨.builtin .append,#[x,y],ats⟩,ty,p,af,g⟩) (hw:AM L ops ⟨d,.call ⟨.builtin .append,#[x,y],ats⟩,ty,p,af,g⟩=some true) (ah:Bg n d=true)
  (ai:ev L x=some (.slice a xs.length c)) (aj:ev L y=some (.slice ax ys.length cx)) (ak:ats[0]? =some t) (al:ats[1]? =some t1) (am:P.underlying t=some (.slice e)) (an:P.underlying t1=some (.slice e)) (ao:Bl P e=some pp.n) (hb:FB P e=some U) (ap:zeroOf P e=some z) (aq:z.cells.size=pp.n)
  (ar:0<U) (au:U<=64) (av:OL e pp E a c seg xs) (aw:OL e pp E ax cx Z ys) (ay:S[j]? =some seg) (az:S[aa]? =some Z)
  (h:∀K O g seg',OL e pp E K O seg' Y->Aq E H (S.set j (g++seg'))->AN J Q b n ds ops k cs m C6 fuel (A6 listed i) (Au L d (.slice K Y.length O)) (Ak E H (S.set j (g++seg')))):
  Take J Q b n ds ops k cs m C6 fuel listed L (Ak E H S) i:=
 Take.L3 ag (by simp [DG,ah]) hw λρ ab=>WY j aa ae (ab _ _ ai) (ab _ _ aj) ak al am an ao hb ap aq ar au av aw ac ay az λK O aA seg' aB aC=>h K O aA seg' aB aC
theorem Take.IZ{z:Value}(O:Aq E H S)(U:ops[i]? =some ⟨d,.alloc e,ty,p,af,g⟩)(hw:AM L ops ⟨d,.alloc e,ty,p,af,g⟩=some true)(Y:Bg n d=true)(Z:zeroOf P e=some z)
  (h:∀r,Aq E H (S++ [[(r,.cells z.cells e (0,0))]])->AN J Q b n ds ops k cs m C6 fuel (A6 listed i) (Au L d (.pointer (some ⟨r,0,none⟩))) (Ak E H (S++ [[(r,.cells z.cells e (0,0))]]))):
  Take J Q b n ds ops k cs m C6 fuel listed L (Ak E H S) i:=
 Take.L3 U (by simp [DG,Y]) hw λρ _=>by
  show lp P (do pure (Next.value (← Instr.alloc e true (.tuple #[])))) _ _ _
  refine As _ _ ?_
  unfold Instr.alloc
  refine As _ _ (Hm Z ?_)
  refine As _ _ (IQ O λr K=>?_)
  rw [(Fv K).1]
  exact h r (Fv K).2
end
end Pal
namespace Pal
open Go Go.Conc
theorem BO{α:Type}{kk:Nat}{pp:Rp α}{E:LH}{ws:Lv_}{xs:List α}(K:(rA kk pp).r E ws xs):ws.length=kk*pp.n:=(rA kk pp).len K
theorem Gt{α:Type}{kk:Nat}{pp:Rp α}{E:LH}{ws:Lv_}{xs:List α}{m:Int}{x:α}(O:(rA kk pp).r E ws xs)(hm:ix xs m=some x):∃us,pp.r E us x/\0<=m/\m<kk/\(∀j w,us[j]? =some w->ws[m.toNat*pp.n+j]? =some w):=by
 obtain⟨U,wss,rfl,Y,K⟩:=O;obtain⟨m,rfl,hm⟩:=FR hm;have aa:m<xs.length:=(List.getElem?_eq_some_iff.1 hm).1;have hw:wss[m]? =some wss[m]:=List.getElem?_eq_getElem (by omega);exact⟨wss[m],K m x _ hm hw,by omega,by omega,λj w Z=>J3 (HW (Y.trans U.symm) K) hw j w Z⟩
section
variable {P:Program}{J:Judge P}{Q:Gs_}{b:Frame}{n:Nat}{ds:Ld_}{ops:Ao_}{k:Li_}{cs:Lf_}{L:Env}{E H:LH}{S:List Seg}
variable {d:Option Tmp}{x y:Operand}{t u ty e:TypeId}{p:String}{af:Ae_}{g:On_}{i:Nat}{rest:List Nat}{kd:IntKind}{s:St}{ρ:Operand->Value}
theorem Gu{α:Type}{kk:Nat}{pp:Rp α}{a:Addr}{ws:Lv_}{xs:List α}(K:(rA kk pp).r E ws xs)(O:C9 P t=some true)(U:Bl P t=some (kk*pp.n))(Y:ρ x= .pointer (some a))(h:∀j v,ws[j]? =some v->s.cell? (a.add j)=some v):Yl P ⟨d,.load t x,ty,p,af,g⟩ ρ s (.agg ws.toArray):=
 IS O (by rw [BO K];exact U) Y h
theorem SZ{α:Type}{pp:Rp α}{kk:Nat}{ws:Lv_}{xs:List α}{xv:α}{m:Int}{O:Bool}(Y:(rA kk pp).r E ws xs)(hm:ix xs m=some xv)
  (ah:ops[i]? =some ⟨d,.index t x y,ty,p,af,g⟩) (hw:AM L ops ⟨d,.index t x y,ty,p,af,g⟩=some true) (ai:BF b n ⟨d,.index t x y,ty,p,af,g⟩=true)
  (aj:ev L x=some (.agg ws.toArray)) (ak:ev L y=some (.int kd m)) (al:P.underlying t=some (.array kk e)) (Z:Bl P e=some pp.n) (am:C9 P e=some O)
  (h:∀us,pp.r E us xv->JL J Q b n (Au L d (if O then .agg us.toArray else us.headD undef)) ds (.inRegion ops rest::k) cs s) (an:O=false->pp.n=1):
  JL J Q b n L ds (.inRegion ops (i::rest)::k) cs s:=by
 obtain⟨us,aa,ao,ap,ab⟩:=Gt Y hm;have hlen:=pp.len aa;have aq:=BO Y;refine A0 ah hw ai (λρ ac=>?_) (h us aa);refine Ft (sm:=Instr.index t (ρ x) (ρ y)) rfl ?_;rw [ac _ _ aj,ac _ _ ak];unfold Instr.index;simp only [asIntOf,HQ];refine As (x:=underlying t) _ (Ce al ?_);simp only [ao,ap,and_self,if_true];refine As (x:=Go.sizeOf e) _ (ED Z ?_);unfold Go.part;refine As (x:=isAgg e) _ (Mx am ?_);have au:m.toNat*pp.n+pp.n<=ws.length:=by
  rw [aq];have:(m.toNat+1)*pp.n<=kk*pp.n:=Nat.mul_le_mul_right _ (by omega);rw [Nat.succ_mul] at this;exact this
 cases O with
 | true=>
  simp only [if_true];refine As (x:=Go.sizeOf e) _ (ED Z ?_);have ar:ws.toArray.extract (m.toNat*pp.n) (m.toNat*pp.n+pp.n)=us.toArray:=by
   apply Array.ext_getElem?;intro j;by_cases ae:j<us.length
   ·have U:=ab j us[j] (List.getElem?_eq_getElem ae);simp only [Array.getElem?_extract,List.size_toArray,List.getElem?_toArray];rw [if_pos (by omega),U];simp [ae]
   ·rw [Array.getElem?_eq_none (by simp;omega),Array.getElem?_eq_none (by simp;omega)]
  rw [ar];exact⟨rfl,rfl⟩
 | false=>
  have ag:=an rfl;obtain⟨w,rfl⟩:∃w,us= [w]:=by
   match us,hlen with
   | [w],_=>exact⟨w,rfl⟩
   | [],K=>rw [ag] at K;cases K
   | _::_::_,K=>rw [ag] at K;simp at K
  have U:=ab 0 w rfl;simp only [Bool.false_eq_true,if_false,List.getElem?_toArray];rw [Nat.add_zero] at U;rw [U];exact⟨rfl,rfl⟩
end
end Pal
namespace Pal
open Go Go.Conc
def HB(S:List Seg):List Nat->Prop
 | []=>True
 | bk::bks=>(∃(j:Nat) (o:Obj),S[j]? =some [(bk,o)])/\HB S bks
theorem HB.mem{S:List Seg}:∀{bks:List Nat},HB S bks->∀bk∈bks,∃(j:Nat) (o:Obj),S[j]? =some [(bk,o)]
 | [],_,_,h=>by cases h
 | b::bks,h,bk,hb=>by
  rcases List.mem_cons.1 hb with rfl | hb
  ·exact h.1
  ·exact h.2.mem bk hb
theorem HB.free{E H:LH}{S:List Seg}{bks:List Nat}(h:HB S bks)(K:Aq E H S):∀x,AT bks x=true->E x=none:=λx O=>by
 obtain⟨j,o,U⟩:=h.mem x (by simpa [AT] using O)
 exact M3 K U
section
variable {P:Program}{J:Judge P}{Q:Gs_}{b:Frame}{n:Nat}{ds:Ld_}{ops:Ao_}{k:Li_}{cs:Lf_}{m fuel:Nat}{D:Nat->Bool}{listed:Array Bool}{L:Env}{s:St}{E E' H:LH}{S:List Seg}
variable {d:Option Tmp}{x y:Operand}{t u ty e:TypeId}{p:String}{af:Ae_}{g:On_}{v:Value}{i:Nat}{kd:IntKind}
theorem VA(m:Nat)(bks:List Nat){id:Nat}(U:HB S bks)(Y:Aq E H S)(hm:P.follows .mixedOrders=true)(K:(b.kind != .early)=true)(O:Dv ops m=true)
  (h:Dv ops m=true->AN J Q b n ds ops k cs m (AT bks) ops.size (Array.replicate ops.size false) L (Ak E H S)):JL J Q b n L ds (.code (.region id ops true)::k) cs (Ak E H S):=
 Ot m (AT bks) rfl hm K (h O)
theorem B4{bks:List Nat}{bk o:Nat}{c:Av_}{f:Nat×Nat}{w:Value}{s':St}(j:Nat)(K:Aq E H S)(O:S[j]? =some [(bk,.cells c e f)])(U:AT bks bk=true)(Y:∀x o,(Br (AT bks) (Ak E H S)).E x=some o->s'.E x=some o)(hw:c[o]? =some w):s'.cell? ⟨bk,o,none⟩=some w:=by
 have Z:(Br (AT bks) (Ak E H S)).E bk=some (.cells c e f):=by
  show(if AT bks bk then(Ak E H S).get bk else E bk)=_
  rw [if_pos U];exact Dw (i:=0) K O rfl
 have aa:=Y _ _ Z;unfold St.cell? St.get;rw [aa];exact hw
theorem YT{bks:List Nat}{s':St}(O:Aq E H S)(U:∀x o,(Br (AT bks) (Ak E H S)).E x=some o->s'.E x=some o)(Y:HB S bks):∀x o,E x=some o->s'.E x=some o:=λx o K=>U x o (by
 show(if AT bks x then(Ak E H S).get x else E x)=some o
 rw [if_neg (λhd=>by rw [Y.free O x hd] at K;cases K)];exact K)
end
end Pal
namespace Pal
open Go Go.Conc
theorem Wd{P:Program}{s:St}{ρ:Operand->Value}{x y:Operand}{d:Option Tmp}{t ty e:TypeId}{p:String}{af:Ae_}{g:On_}{kd:IntKind}{α:Type}{xs:List α}{xv:α}{m:Int}{bk c K:Nat}(hm:ix xs m=some xv)(O:P.underlying t=some (.slice e))(U:Bl P e=some K)(Y:ρ x= .slice (some ⟨bk,0,none⟩) xs.length c)(Z:ρ y= .int kd m):
  Yl P ⟨d,.indexAddr t x y,ty,p,af,g⟩ ρ s (.pointer (some ⟨bk,m.toNat*K,none⟩)):=by
 obtain⟨m,rfl,hm⟩:=FR hm;have aa:m<xs.length:=(List.getElem?_eq_some_iff.1 hm).1;have:=Li (P:=P) (s:=s) (d:=d) (ty:=ty) (p:=p) (af:=af) (g:=g) O U Y Z ⟨by omega,by omega⟩;rw [Dm rfl] at this;simpa using this
end Pal
namespace Pal
open Go Go.Conc
def HD(ws:Lv_)(q:Nat)(us:Lv_):Lv_:=(Bb ws.toArray q us).toList
theorem Mz{ws us:Lv_}{q:Nat}(h:q+us.length<=ws.length)(j:Nat):(HD ws q us)[j]? =if q<=j/\j<q+us.length then us[j - q]? else ws[j]? :=by
 unfold HD;rw [Array.getElem?_toList,Ll us _ q (by simpa using h)];simp
theorem Ue{l ws us:Lv_}{q:Nat}(h:q+us.length<=ws.length):Bb (l++ws).toArray (l.length+q) us=(l++HD ws q us).toArray:=by
 apply Array.ext_getElem?;intro j;rw [Ll us _ _ (by simp;omega)];simp only [List.getElem?_toArray];by_cases O:l.length+q<=j/\j<l.length+q+us.length
 ·rw [if_pos O,List.getElem?_append_right (by omega),Mz h,if_pos (by omega)];congr 1;omega
 ·rw [if_neg O];rcases Nat.lt_or_ge j l.length with K | K
  ·rw [List.getElem?_append_left K,List.getElem?_append_left K]
  ·rw [List.getElem?_append_right K,List.getElem?_append_right K,Mz h,if_neg (by omega)]
theorem Iq{ws us:Lv_}(h:us.length=ws.length):HD ws 0 us=us:=by
 apply List.ext_getElem?;intro j;rw [Mz (by omega)];split
 ·simp
 ·rename_i K;rw [List.getElem?_eq_none (by omega),List.getElem?_eq_none (by omega)]
theorem Gw{E H:LH}{S:List Seg}{bk:Nat}{l ws:Lv_}{e:TypeId}{f:Nat×Nat}(j:Nat)(K:Aq E H S)(O:S[j]? =some [(bk,.cells (l++ws).toArray e f)]):∀q v,ws[q]? =some v->(Ak E H S).cell? (Addr.add ⟨bk,l.length,none⟩ q)=some v:=λq v U=>by
 rw [Dm rfl]
 refine BL K O ?_
 simp only [List.getElem?_toArray]
 rw [List.getElem?_append_right (by omega)]
 rw [show l.length+q - l.length=q by omega];exact U
theorem IN{E H:LH}{S:List Seg}{bk o:Nat}{l ws:Lv_}{e:TypeId}{f:Nat×Nat}{w:Value}(j:Nat)(K:Aq E H S)(O:S[j]? =some [(bk,.cells (l++ws).toArray e f)])(U:ws[o]? =some w):(Ak E H S).cell? ⟨bk,l.length+o,none⟩=some w:=by
 have:=Gw j K O o w U
 rwa [Dm rfl] at this
theorem LD{α:Type}{kk:Nat}{pp:Rp α}{E:LH}{ws us:Lv_}{xs:List α}{m:Int}{x y:α}(Z:(rA kk pp).r E ws xs)(hm:ix xs m=some x)(hu:pp.r E us y):(rA kk pp).r E (HD ws (m.toNat*pp.n) us) (xs.set m.toNat y)/\m.toNat*pp.n+us.length<=ws.length:=by
 have aj:=BO Z;obtain⟨aa,wss,rfl,ab,ac⟩:=Z;obtain⟨m,rfl,hm⟩:=FR hm;have ak:m<xs.length:=(List.getElem?_eq_some_iff.1 hm).1;have ae:=pp.len hu;have al:=HW (ab.trans aa.symm) ac;have ag:m*pp.n+us.length<=wss.flatten.length:=by
  rw [aj,ae];have:(m+1)*pp.n<=kk*pp.n:=Nat.mul_le_mul_right _ (by omega);rw [Nat.succ_mul] at this;exact this
 simp only [Int.toNat_natCast];refine⟨⟨by simpa using aa,wss.set m us,?_,by simpa using ab,λi am an O U=>?_⟩,ag⟩
 ·apply List.ext_getElem?;intro j;rw [Mz ag];have key:∀(wss:List (Lv_)) (m:Nat) (hm:m<wss.length),(∀ws∈wss,ws.length=pp.n)->∀j,(wss.set m us).flatten[j]? =if m*pp.n<=j/\j<m*pp.n+us.length then us[j - m*pp.n]? else wss.flatten[j]? :=by
   intro wss
   induction wss with
   | nil=>intro m hm;simp at hm
   | cons vs wss ao=>
    intro m hm ah j;have ap:vs.length=pp.n:=ah vs (by simp);cases m with
    | zero=>
     simp only [List.set_cons_zero,List.flatten_cons,Nat.zero_mul,Nat.zero_le,true_and,Nat.zero_add,Nat.sub_zero];split
     ·rename_i K;rw [List.getElem?_append_left K]
     ·rename_i K;rw [List.getElem?_append_right (by omega),List.getElem?_append_right (by omega),ae,ap]
    | succ m=>
     simp only [List.set_cons_succ,List.flatten_cons];have Y:(m+1)*pp.n=m*pp.n+pp.n:=Nat.succ_mul _ _;rcases Nat.lt_or_ge j vs.length with K | K
     ·rw [List.getElem?_append_left K,List.getElem?_append_left K,if_neg (by omega)]
     ·rw [List.getElem?_append_right K,List.getElem?_append_right K,ao m (by simpa using hm) (λws aq=>ah ws (List.mem_cons_of_mem _ aq))];by_cases ai:m*pp.n<=j - vs.length/\j - vs.length<m*pp.n+us.length
      ·rw [if_pos ai,if_pos (by omega)];congr 1;omega
      ·rw [if_neg ai,if_neg (by omega)]
  exact(key wss m (by omega) al j).symm
 ·rw [List.getElem?_set] at O U;by_cases Y:m=i
  ·subst Y;rw [if_pos rfl,if_pos ak] at O;rw [if_pos rfl,if_pos (by omega)] at U;cases O;cases U;exact hu
  ·rw [if_neg Y] at O U;exact ac i am an O U
theorem EW{α:Type}{kk:Nat}{pp:Rp α}{E:LH}{w:Value}{x:α}(h:pp.r E [w] x):(rA kk pp).r E (List.replicate kk w) (List.replicate kk x):=by
 refine⟨by simp,List.replicate kk [w],?_,by simp,λi y us K hu=>?_⟩
 ·induction kk with
  | zero=>rfl
  | succ k O=>rw [List.replicate_succ,List.replicate_succ,List.flatten_cons,← O];rfl
 ·have U:=List.eq_of_mem_replicate (List.mem_of_getElem? K);have e2:=List.eq_of_mem_replicate (List.mem_of_getElem? hu);subst U e2;exact h
section
variable {P:Program}{J:Judge P}{Q:Gs_}{b:Frame}{n:Nat}{ds:Ld_}{ops:Ao_}{k:Li_}{cs:Lf_}{L:Env}{E H:LH}{S:List Seg}
variable {d:Option Tmp}{x y:Operand}{t u ty e:TypeId}{p:String}{af:Ae_}{g:On_}{i:Nat}{rest:List Nat}{kd:IntKind}{s:St}{ρ:Operand->Value}
theorem Ho{α:Type}{kk:Nat}{pp:Rp α}{ws:Lv_}{xs:List α}{xv:α}{m:Int}{bk o:Nat}(K:(rA kk pp).r E ws xs)(hm:ix xs m=some xv)(O:P.underlying t=some (.array kk e))(U:Bl P e=some pp.n)(Y:ρ x= .pointer (some ⟨bk,o,none⟩))(Z:ρ y= .int kd m):
  Yl P ⟨d,.indexAddr t x y,ty,p,af,g⟩ ρ s (.pointer (some ⟨bk,o+m.toNat*pp.n,none⟩)):=by
 obtain⟨us,ac,aa,ab,ae⟩:=Gt K hm;have:=Qr (P:=P) (s:=s) (d:=d) (ty:=ty) (p:=p) (af:=af) (g:=g) O U Y Z ⟨aa,ab⟩;rw [Dm rfl] at this;exact this
theorem Gd{bk o:Nat}{l ws us:Lv_}{v:Value}(j:Nat)(U:ops[i]? =some ⟨d,.store t x y,ty,p,af,g⟩)(hw:AM L ops ⟨d,.store t x y,ty,p,af,g⟩=some true)(Y:BF b n ⟨d,.store t x y,ty,p,af,g⟩=true)(Z:Aq E H S)
  (aa:ev L x=some (.pointer (some ⟨bk,l.length+o,none⟩))) (ab:ev L y=some v) (K:v.cells.toList=us) (ac:Bl P t=some us.length) (ae:∀u∈us,CU u=true) (ag:S[j]? =some [(bk,.cells (l++ws).toArray e (0,0))]) (hle:o+us.length<=ws.length)
  (h:Aq E H (S.set j [(bk,.cells (l++HD ws o us).toArray e (0,0))])->JL J Q b n (Au L d undef) ds (.inRegion ops rest::k) cs (Ak E H (S.set j [(bk,.cells (l++HD ws o us).toArray e (0,0))]))):
  JL J Q b n L ds (.inRegion ops (i::rest)::k) cs (Ak E H S):=by
 have ah:v.cells.size=us.length:=by rw [← K];simp
 refine JS.store (v:=v) (off:=l.length+o) j U hw Y Z aa ab (by rw [ah];exact ac) (by rw [K];exact ae) ag (by simp;omega) λO=>?_;rw [K,Ue hle] at O ⊢;exact h O
end
end Pal
namespace Pal
open Go Go.Conc
section
variable {P:Program}{s:St}{ρ:Operand->Value}{x y z:Operand}{d:Option Tmp}{t u ty e:TypeId}{p:String}{af:Ae_}{g:On_}{v v':Value}{E:LH}
theorem SD{n:Nat}{kd:IntKind}{a b:Int}(K:P.underlying t=some (.int kd)){Q:Bool->St->Prop}{X:Halt->St->Prop}(k:Q (a==b) s):lp P (Op.equalIn (n+1) t (.int kd a) (.int kd b)) s Q X:=by
 unfold Op.equalIn;refine As _ _ (Ce K ?_);simp only [if_true];exact k
end
theorem Vl{E H:LH}{S:List Seg}{bks:List Nat}{bk:Nat}{l ws:Lv_}{e:TypeId}{f:Nat×Nat}{s':St}(j:Nat)(K:Aq E H S)(O:S[j]? =some [(bk,.cells (l++ws).toArray e f)])(U:AT bks bk=true)(Y:∀x o,(Br (AT bks) (Ak E H S)).E x=some o->s'.E x=some o):∀q v,ws[q]? =some v->s'.cell? (Addr.add ⟨bk,l.length,none⟩ q)=some v:=λq v Z=>by
 rw [Dm rfl]
 refine B4 j K O U Y ?_
 simp only [List.getElem?_toArray]
 rw [List.getElem?_append_right (by omega)]
 rw [show l.length+q - l.length=q by omega];exact Z
end Pal
namespace Pal
open Go Go.Conc
section
variable {P:Program}{s:St}{ρ:Operand->Value}{x y z:Operand}{d:Option Tmp}{t u ty e xt t1 t2:TypeId}{p:String}{af:Ae_}{g:On_}{v v':Value}{o:Option (Int×Option Int)}
end
def Tx{P:Program}(J:Judge P)(v:Value)(args:Av_)(s:St)(R:Value->St->Prop):Prop:=
 ∀(Q:Gs_) (c:Frame) (cs:Lf_),(∀w s',R w s'->J.ok Q (G (c.finish w) cs) s')->
  lp P (do let d ← Deferred.ofValue v args;invoke d.target d.args) s (λK s'=>match K with
   | .enter f a=>J.ok Q (G (Frame.enter P f a .normal) (c::cs)) s'
   | .round l f tm as O=>J.ok Q (G (Frame.round l f tm as O .normal) (c::cs)) s'
   | _=>False) (λ_ _=>False)
def EI{P:Program}(J:Judge P)(v:Value)(args:Lv_)(E:LH)(B:Seg)(R:Value->LH->Seg->Prop):Prop:=
 ∀H,Nd E H B->Tx J v args.toArray (mk E H B) (λv s'=>∃E' B',Le E E'/\R v E' B'/\Nd E' H B'/\s'=mk E' H B')
section
variable {P:Program}{J:Judge P}{Q:Gs_}{b:Frame}{n:Nat}{L:Env}{ds:Ld_}{k:Li_}{cs:Lf_}{E:LH}{H:LH}{S:List Seg}{i:Nat}{rest:List Nat}{d:Option Tmp}{ty e t:TypeId}{p:String}{af:Ae_}{g:On_}{ops:Ao_}
theorem EI.ofFn{f:FuncId}{caps vs:Lv_}{B:Seg}{R:Value->LH->Seg->Prop}(hb:De P f=true)(h:AL J f (vs++caps) E B R):EI J (.func (.func f) #[] caps.toArray) vs E B R:=λH K Q c cs O=>by
 simp only [Deferred.ofValue,bind,Sem.bind,pure,invoke]
 have e: #[]++vs.toArray++caps.toArray=(vs++caps).toArray:=by simp
 rw [e];exact Io hb (h H K Q c cs O)
theorem Va{x:Operand}{O:Value}{args:Array Operand}{ats:Array TypeId}{s:St}{vs:Lv_}{R:Value->St->Prop}
  (Y:ops[i]? =some ⟨d,.call ⟨.value x,args,ats⟩,ty,p,af,g⟩) (hw:AM L ops ⟨d,.call ⟨.value x,args,ats⟩,ty,p,af,g⟩=some true) (U:((b.kind != .early)&&Bg n d)=true)
  (Z:ev L x=some O) (aa:evs L args.toList=some vs) (ab:Tx J O vs.toArray s R) (ac:∀v s',R v s'->JL J Q b n (Au L d v) ds (.inRegion ops rest::k) cs s'):
  JL J Q b n L ds (.inRegion ops (i::rest)::k) cs s:=λT K=>by
 simp only [Bool.and_eq_true] at U
 have ae:args.map (Bs T)=vs.toArray:=by
  rw [← Gf K.FU aa];apply Array.ext';simp
 refine Judge.oper Y (BX K hw) (by simpa using U.1) (.inr λc ag=>by cases ag) ?_;have hd:lp P (execOp (Bs T) ⟨d,.call ⟨.value x,args,ats⟩,ty,p,af,g⟩) s (upon J Q b T ds ops i rest k cs d) (K0 J Q b T ds ops i rest k cs):=by
  have ah:execOp (Bs T) ⟨d,.call ⟨.value x,args,ats⟩,ty,p,af,g⟩=(do let d ← Deferred.ofValue O vs.toArray;invoke d.target d.args):=by
   simp only [execOp,resolve,ae,K.FU _ _ Z]
  rw [ah];refine Ec _ (ab Q (fr b T ds (.inRegion ops (i::rest)::k)) cs λv s' ai=>?_) (λaj s' h=>?_) (λ_ _ h=>h.elim)
  ·rw [Ge (o:=⟨d,.call ⟨.value x,args,ats⟩,ty,p,af,g⟩) _ _ _ _ _ Y];exact ac v s' ai _ (K.put U.2 v)
  ·cases aj <;> first | exact h | exact h.elim
 exact hd
theorem IT{x:Operand}{O:Value}{args:Array Operand}{ats:Array TypeId}{vs:Lv_}{seg:Seg}{R:Value->LH->Seg->Prop}(j:Nat)
  (ae:EI J O vs E seg R) (ag:ops[i]? =some ⟨d,.call ⟨.value x,args,ats⟩,ty,p,af,g⟩) (hw:AM L ops ⟨d,.call ⟨.value x,args,ats⟩,ty,p,af,g⟩=some true) (ah:((b.kind != .early)&&Bg n d)=true)
  (K:ev L x=some O) (ai:evs L args.toList=some vs) (U:Aq E H S) (Y:S[j]? =some seg) (aj:∀v E' seg',Le E E'->R v E' seg'->Aq E' H (S.set j seg')->JL J Q b n (Au L d v) ds (.inRegion ops rest::k) cs (Ak E' H (S.set j seg'))):
  JL J Q b n L ds (.inRegion ops (i::rest)::k) cs (Ak E H S):=by
 have Z:S.flatten.Perm (seg++(S.set j []).flatten):=(DZ (seg':=seg) Y).1.trans List.perm_append_comm;have aa:Nd E H (seg++(S.set j []).flatten):=Nd.perm U Z;have ak:Ak E H S=mk E (Bf (S.set j []).flatten H) seg:=by
  rw [show Ak E H S=mk E H S.flatten from rfl,EV U Z];unfold mk;rw [FQ]
 rw [ak];refine Va ag hw ah K ai (ae _ (Nd.front aa)) ?_;rintro v s' ⟨E',B',hle,al,am,rfl⟩;have e2:mk E' (Bf (S.set j []).flatten H) B'=mk E' H (B'++(S.set j []).flatten):=by unfold mk;rw [FQ]
 have an:Nd E H (S.set j []).flatten:=by
  have:=aa;rw [Nd.iff] at this ⊢;rw [List.map_append,List.nodup_append] at this;exact⟨this.1.2.1,λq ao=>this.2 q (List.mem_append_right _ ao)⟩
 refine RE rfl λ⟨w,ap⟩=>?_;have aq:Nd E' H (S.set j []).flatten:=an.grow λx K=>by
  have ar:=ap.d x K;have au:Bf B' (Bf (S.set j []).flatten H) x=none:=ar;exact(HP au).1
 have ab:Nd E' H (B'++(S.set j []).flatten):=Nd.glue am aq;rw [e2];have ac:(B'++(S.set j []).flatten).Perm (S.set j B').flatten:=List.perm_append_comm.trans (DZ Y).2.symm;rw [EV ab ac];exact aj v E' B' hle al (Nd.perm ab ac)
theorem Take.YW{bks:List Nat}{m fuel:Nat}{listed:Array Bool}{f:FuncId}{args:Array Operand}{ats:Array TypeId}{vs:Lv_}{R:Value->LH->Seg->Prop}(ag:HB S bks)(Z:Aq E H S)(ah:AL J f vs E [] R)
  (ai:ops[i]? =some ⟨d,.call ⟨.value (.func f),args,ats⟩,ty,p,af,g⟩) (hw:AM L ops ⟨d,.call ⟨.value (.func f),args,ats⟩,ty,p,af,g⟩=some true) (aj:Bg n d=true) (hb:De P f=true) (ak:evs L args.toList=some vs)
  (al:∀v E' seg',Le E E'->R v E' seg'->Aq E' H (S++ [seg'])->AN J Q b n ds ops k cs m (AT bks) fuel (A6 listed i) (Au L d v) (Ak E' H (S++ [seg']))):
  Take J Q b n ds ops k cs m (AT bks) fuel listed L (Ak E H S) i:=by
 have am:=Ez.K4 (ah (Bf S.flatten H) trivial) (by rintro v s' ⟨E',B',_,_,_,rfl⟩;rfl);refine⟨_,ai,by simp [DG],aj,hw,λρ aa=>?_⟩;have an:args.map ρ=vs.toArray:=by
  rw [← Gf aa ak];apply Array.ext';simp
 have ao:ρ (.func f)= .func (.func f) #[] #[]:=aa _ _ rfl;simp only [execOp,resolve,bind,Sem.bind,Deferred.ofValue,ao,pure,invoke];have e: #[]++args.map ρ++ #[]=vs.toArray:=by rw [an];simp
 rw [e];refine Io hb ?_;rw [KB];refine⟨_,am,?_⟩;rintro v az ⟨⟨E',B',hle,ap,aq,rfl⟩,w,ar⟩;have e2:mk E' (Bf S.flatten H) B'=mk E' H (B'++S.flatten):=by unfold mk;rw [FQ]
 have au:Nd E' H S.flatten:=Nd.grow Z λx O=>by
  have av:=ar.d x O;have U:Bf B' (Bf S.flatten H) x=none:=av;exact(HP U).1
 have ab:Nd E' H (B'++S.flatten):=Nd.glue aq au;have ac:(B'++S.flatten).Perm (S++ [B']).flatten:=by rw [GY];exact List.perm_append_comm
 have ae:Aq E' H (S++ [B']):=Nd.perm ab ac;rw [e2,EV ab ac];refine⟨rfl,λx o O=>?_,al v E' B' hle ap ae⟩;by_cases hd:AT bks x=true
 ·obtain⟨j,o',Y⟩:=ag.mem x (by simpa [AT] using hd);have U:(Ak E H S).get x=some o':=Dw (i:=0) Z Y rfl;have aw:j<S.length:=(List.getElem?_eq_some_iff.1 Y).1;have ay:(Ak E' H (S++ [B'])).get x=some o':=Dw (i:=0) ae (by rw [List.getElem?_append_left aw];exact Y) rfl;have K:(if AT bks x then(Ak E H S).get x else E x)=some o:=O
  show(if AT bks x then(Ak E' H (S++ [B'])).get x else E' x)=some o
  rw [if_pos hd] at K ⊢;rw [ay,← U];exact K
 ·have K:(if AT bks x then(Ak E H S).get x else E x)=some o:=O
  show(if AT bks x then(Ak E' H (S++ [B'])).get x else E' x)=some o
  rw [if_neg hd] at K ⊢;exact hle _ _ K
theorem Take.EF{m fuel:Nat}{listed:Array Bool}{f:FuncId}{args:Array Operand}{ats:Array TypeId}{vs:Lv_}{R:Value->LH->Seg->Prop}(O:Aq E H S)(U:AL J f vs E [] R)
  (Y:ops[i]? =some ⟨d,.call ⟨.value (.func f),args,ats⟩,ty,p,af,g⟩) (hw:AM L ops ⟨d,.call ⟨.value (.func f),args,ats⟩,ty,p,af,g⟩=some true) (Z:Bg n d=true) (hb:De P f=true) (aa:evs L args.toList=some vs)
  (K:∀v E' seg',Le E E'->R v E' seg'->Aq E' H (S++ [seg'])->AN J Q b n ds ops k cs m C6 fuel (A6 listed i) (Au L d v) (Ak E' H (S++ [seg']))):
  Take J Q b n ds ops k cs m C6 fuel listed L (Ak E H S) i:=by
 have e:AT []=C6:=by funext x;rfl
 rw [← e] at K ⊢;exact Take.YW (bks:= []) trivial O U Y hw Z hb aa K
end
end Pal
namespace Pal
open Go Go.Conc
open Go.ConcN (upd upd_same upd_ne)
def CB:Loc->Option Nat | .cell a=>some a.block | .obj r=>some r | _=>none
structure BP (t:Trace) (w:World) (N:Nat) (S:Nat->St) (Sh:Nat->Prop):Prop where
 fits:∀i,i<N->Fits (S i) w
 hh:∀i j,i<N->j<N->i≠j->∀b,(S i).H b≠none->(S j).H b=none/\(S j).E b=none
 sh:∀i,i<N->∀b,Sh b->(S i).H b=none/\(S i).E b=none
 F4:∀b,Sh b->b<w.heap.size
 clean:∀said,¬Race said t
 low:∀op∈t,op.act.low w.heap.size
 kH:∀i,i<N->∀b,(S i).H b≠none->∀x a,touchAt t x=some a->CB a.loc=some b->Knows t i x
 kE:∀i,i<N->∀b,(S i).E b≠none->∀x a,touchAt t x=some a->CB a.loc=some b->a.write=true->Knows t i x
theorem Oo{t:Trace}{x:Nat}{a:Touch}{b n:Nat}(Z:∀op∈t,op.act.low n)(h:touchAt t x=some a)(hb:CB a.loc=some b):b<n:=by
 obtain⟨op,aa,K⟩:=touch_of h;have O:=Z op (mem_of_getElem? aa);cases U:op.act with
 | access e=>
  rw [U] at K O;simp only [MemAct.touch?,Option.some.injEq] at K;subst K;simp only [MemAct.low] at O;cases Y:e.loc with
  | cell ad=>rw [Y] at O hb;simp only [CB,Option.some.injEq] at hb;subst hb;exact O
  | obj r=>rw [Y] at O hb;simp only [CB,Option.some.injEq] at hb;subst hb;exact O
  | _=>rw [Y] at hb;simp [CB] at hb
 | mark m=>
  rw [U] at K O;cases m <;> simp only [MemAct.touch?] at K <;> first
   | (simp at K;done)
   | (simp only [Option.some.injEq] at K;subst K;simp only [CB,Option.some.injEq] at hb;subst hb;exact O)
 | _=>rw [U] at K;simp [MemAct.touch?] at K
theorem KI{s:St}{w w':World}{e:Event}{a:Touch}{b:Nat}(h:Ev s w w' e)(K:(MemAct.ofEvent e).touch? =some a)(hb:CB a.loc=some b):
  Gy s w w' b a.write:=by
 obtain⟨loc,wr,Y⟩:=e;cases loc with
 | cell ad=>
  obtain⟨O,U⟩:=h;simp only at O;subst O;simp only [MemAct.ofEvent,MemAct.touch?,Option.some.injEq] at K;subst K;simp only [CB,Option.some.injEq] at hb;subst hb;exact U
 | obj r=>
  obtain⟨O,U⟩:=h;simp only at O;subst O;simp only [MemAct.ofEvent,MemAct.touch?,Option.some.injEq] at K;subst K;simp only [CB,Option.some.injEq] at hb;subst hb;exact U
 | mark m=>
  cases m <;> simp only [Ev] at h <;> first | exact h.elim | simp [MemAct.ofEvent,MemAct.touch?] at K
 | _=>exact h.elim
theorem YM{s:St}{w w':World}{e:Event}(h:Ev s w w' e):(MemAct.ofEvent e).low w'.heap.size:=by
 obtain⟨loc,wr,U⟩:=e;cases loc with
 | cell ad=>obtain⟨K,O⟩:=h;simp only at K;subst K;exact O.1
 | obj r=>obtain⟨K,O⟩:=h;simp only at K;subst K;cases wr <;> exact O.1
 | mark m=>cases m <;> simp only [Ev] at h <;> first | exact h.elim | exact trivial
 | _=>exact h.elim
theorem T5{l:Loc}(h:l.isMemory=true):∃b,CB l=some b:=by
 cases l <;> simp [Loc.isMemory] at h <;> exact⟨_,rfl⟩
theorem BP.own{t:Trace}{w w':World}{N:Nat}{S:Nat->St}{Sh:Nat->Prop}(h:BP t w N S Sh){i:Nat}(hi:i<N){s':St}{fn:FuncId}{pos:String}{es:Array Event}
  (az:Fits s' w') (Y:Fr (S i) w s' w') (ak:∀e∈es,Ev (S i) w w' e):BP (t++MemOp.ofEvents i fn pos es) w' N (upd S i s') Sh:=by
 have ar:∀j,j<N->j≠i->∀b o,((S j).H b=some o∨(S j).E b=some o)->w'.heap[b]? =some o/\(S i).H b=none:=by
  intro j U Z b o K;have hw:w.heap[b]? =some o:=K.elim ((h.fits j U).h b o) ((h.fits j U).e b o);have ac:b<w.heap.size:=by
   rcases Nat.lt_or_ge b w.heap.size with an | an
   ·exact an
   ·simp [Array.getElem?_eq_none an] at hw
  have au:(S i).H b=none:=by
   cases aA:(S i).H b with
   | none=>rfl
   | some u=>
    have:=h.hh i j hi U (Ne.symm Z) b (by rw [aA];simp);rcases K with K | K
    ·rw [this.1] at K;cases K
    ·rw [this.2] at K;cases K
  exact⟨by rw [Y.keep b ac au,hw],au⟩
 have al:∀j,j<N->∀b,w.heap.size<=b->(S j).H b=none/\(S j).E b=none:=by
  intro j U b hb;constructor
  ·cases O:(S j).H b with
   | none=>rfl
   | some o=>have:=(h.fits j U).h b o O;simp [Array.getElem?_eq_none hb] at this
  ·cases O:(S j).E b with
   | none=>rfl
   | some o=>have:=(h.fits j U).e b o O;simp [Array.getElem?_eq_none hb] at this
 have ae:∀op∈MemOp.ofEvents i fn pos es,op.g=i/\∃e∈es,op.act=MemAct.ofEvent e:=by
  intro op ae;obtain⟨e,he,rfl⟩:=mem_ofEvents ae;exact⟨rfl,e,he,rfl⟩
 have hold:∀x a,touchAt t x=some a->touchAt (t++MemOp.ofEvents i fn pos es) x=some a:=by
  intro x a O;obtain⟨op,K,_⟩:=touch_of O;rw [touchAt_old (lt_size_of_getElem? K)];exact O
 have am:∀x a,touchAt (t++MemOp.ofEvents i fn pos es) x=some a->touchAt t x=some a∨(Knows (t++MemOp.ofEvents i fn pos es) i x/\∃e∈es,(MemAct.ofEvent e).touch? =some a):=by
  intro x a O;obtain⟨op,K,av⟩:=touch_of O;rcases getElem?_append_cases K with⟨ac,aB⟩ | ⟨_,aC⟩
  ·left;rw [touchAt_of aB];exact av
  ·right;obtain⟨aD,e,he,ah⟩:=ae op aC;exact⟨by have:=knows_own K;rwa [aD] at this,e,he,by rw [← ah];exact av⟩
 have aE:∀j,j<N->j≠i->∀b,s'.H b≠none->(S j).H b=none/\(S j).E b=none:=by
  intro j U Z b hb;rcases Y.own b hb with O | O
  ·exact h.hh i j hi U (Ne.symm Z) b O
  ·exact al j U b O
 have aF:∀j,j<N->j≠i->∀b,(S j).H b≠none->s'.H b=none/\s'.E b=none:=by
  intro j U Z b hb;have aa:=h.hh j i U hi Z b hb;have ac:¬w.heap.size<=b:=λO=>hb (al j U b O).1;constructor
  ·cases O:s'.H b with
   | none=>rfl
   | some o=>
    rcases Y.own b (by rw [O];simp) with y | y
    ·exact absurd aa.1 y
    ·exact absurd y ac
  ·cases O:s'.E b with
   | none=>rfl
   | some o=>
    rcases Y.Ex b (by rw [O];simp) with y | y | y
    ·exact absurd aa.2 y
    ·exact absurd aa.1 y
    ·exact absurd y ac
 constructor
 ·intro j U;by_cases e:j=i
  ·subst e;rw [upd_same];exact az
  ·rw [upd_ne _ _ e];exact⟨λb o K=>(ar j U e b o (.inr K)).1,λb o K=>(ar j U e b o (.inl K)).1,(h.fits j U).d⟩
 ·intro a c aw ai Z b hb;by_cases e:a=i
  ·subst e;rw [upd_same] at hb;rw [upd_ne _ _ (Ne.symm Z)];exact aE c ai (Ne.symm Z) b hb
  ·rw [upd_ne _ _ e] at hb;by_cases ay:c=i
   ·subst ay;rw [upd_same];exact aF a aw Z b hb
   ·rw [upd_ne _ _ ay];exact h.hh a c aw ai Z b hb
 ·intro j U b hb;by_cases e:j=i
  ·subst e;rw [upd_same];have aa:=h.sh j U b hb;have ac:=h.F4 b hb;constructor
   ·cases O:s'.H b with
    | none=>rfl
    | some o=>
     rcases Y.own b (by rw [O];simp) with y | y
     ·exact absurd aa.1 y
     ·omega
   ·cases O:s'.E b with
    | none=>rfl
    | some o=>
     rcases Y.Ex b (by rw [O];simp) with y | y | y
     ·exact absurd aa.2 y
     ·exact absurd aa.1 y
     ·omega
  ·rw [upd_ne _ _ e];exact h.sh j U b hb
 ·exact λb hb=>Nat.lt_of_lt_of_le (h.F4 b hb) Y.size
 ·intro said;refine noRace_append (g:=i) (h.clean said) (λop K=>(ae op K).1) λx a O op K c ai aG=>?_;obtain⟨_,e,he,ah⟩:=ae op K;rw [ah] at ai;obtain⟨aH,hm,ag,_⟩:=aG;obtain⟨b,hb⟩:=T5 hm;have aI:CB c.loc=some b:=by rw [← aH];exact hb
  have aj:=KI (ak e he) ai aI;rcases aj.2 with y | y | ⟨y,ao⟩
  ·exact h.kH i hi b y x a O hb
  ·have:=Oo h.low O hb;omega
  ·rcases ag with z | z
   ·exact h.kE i hi b y x a O hb z
   ·rw [ao] at z;cases z
 ·intro op K;rcases Array.mem_append.1 K with K | K
  ·exact MemAct.low_mono Y.size (h.low op K)
  ·obtain⟨_,e,he,ah⟩:=ae op K;rw [ah];exact YM (ak e he)
 ·intro j U b hb x a O ab;by_cases e:j=i
  ·subst e;rw [upd_same] at hb;rcases am x a O with K | ⟨ap,_⟩
   ·rcases Y.own b hb with y | y
    ·exact(h.kH j U b y x a K ab).app _
    ·have:=Oo h.low K ab;omega
   ·exact ap
  ·rw [upd_ne _ _ e] at hb;rcases am x a O with K | ⟨_,ev,he,aq⟩
   ·exact(h.kH j U b hb x a K ab).app _
   ·have aj:=KI (ak ev he) aq ab;have aa:=h.hh j i U hi e b hb;rcases aj.2 with y | y | ⟨y,_⟩
    ·exact absurd aa.1 y
    ·exact absurd (al j U b y).1 hb
    ·exact absurd aa.2 y
 ·intro j U b hb x a O ab ag;by_cases e:j=i
  ·subst e;rw [upd_same] at hb;rcases am x a O with K | ⟨ap,_⟩
   ·rcases Y.Ex b hb with y | y | y
    ·exact(h.kE j U b y x a K ab ag).app _
    ·exact(h.kH j U b y x a K ab).app _
    ·have:=Oo h.low K ab;omega
   ·exact ap
  ·rw [upd_ne _ _ e] at hb;rcases am x a O with K | ⟨_,ev,he,aq⟩
   ·exact(h.kE j U b hb x a K ab ag).app _
   ·have aj:=KI (ak ev he) aq ab;rcases aj.2 with y | y | ⟨_,ao⟩
    ·exact absurd ((h.hh i j hi U (Ne.symm e) b y).2) hb
    ·exact absurd (al j U b y).2 hb
    ·rw [ao] at ag;cases ag
theorem BP.mute{t u:Trace}{w w':World}{N:Nat}{S:Nat->St}{Sh:Nat->Prop}(h:BP t w N S Sh){g:Nat}(hu:∀op∈u,op.g=g)(Z:∀op∈u,op.act.touch? =none)(ac:∀op∈u,op.act.low w'.heap.size)(hw:w'.heap=w.heap):BP (t++u) w' N S Sh:=by
 have aa:∀x a,touchAt (t++u) x=some a->touchAt t x=some a:=by
  intro x a O;obtain⟨op,K,U⟩:=touch_of O;rcases getElem?_append_cases K with⟨ai,ae⟩ | ⟨_,ag⟩
  ·rw [touchAt_of ae];exact U
  ·rw [Z op ag] at U;cases U
 exact⟨λi hi=>⟨λb o K=>by rw [hw];exact(h.fits i hi).e b o K,λb o K=>by rw [hw];exact(h.fits i hi).h b o K,(h.fits i hi).d⟩,h.hh,h.sh,λb hb=>by rw [hw];exact h.F4 b hb,
  λsaid=>noRace_append (g:=g) (h.clean said) hu (λx a _ op K c ab _=>by rw [Z op K] at ab;cases ab),
  λop K=>(Array.mem_append.1 K).elim (λK=>by rw [hw];exact h.low op K) (ac op),
  λi hi b hb x a O Y=>(h.kH i hi b hb x a (aa x a O) Y).app _,λi hi b hb x a O Y ah=>(h.kE i hi b hb x a (aa x a O) Y ah).app _⟩
theorem BP.ghost{t:Trace}{w:World}{N:Nat}{S:Nat->St}{Sh:Nat->Prop}(h:BP t w N S Sh){i:Nat}(hi:i<N){s₀:St}(ac:B9 (S i) s₀):BP t w N (upd S i s₀) Sh:=by
 have Z:∀b,s₀.H b≠none->(S i).H b≠none:=λb hb=>by obtain⟨o,ae⟩:=HR hb;rw [ac.own b o ae];simp
 have ag:∀b,s₀.E b≠none->(S i).E b≠none∨(S i).H b≠none:=λb hb=>by
  obtain⟨o,ae⟩:=HR hb;rcases ac.Ex b o ae with x | x
  ·exact .inl (by rw [x];simp)
  ·exact .inr (by rw [x.1];simp)
 have aa:∀{x:Option Obj},¬x≠none->x=none:=λh=>Classical.not_not.1 h;constructor
 ·intro j K;by_cases e:j=i
  ·subst e;rw [upd_same];exact ac.fits (h.fits j K)
  ·rw [upd_ne _ _ e];exact h.fits j K
 ·intro a c ah ai ab b hb;by_cases e:a=i
  ·subst e;rw [upd_same] at hb;rw [upd_ne _ _ (Ne.symm ab)];exact h.hh a c ah ai ab b (Z b hb)
  ·rw [upd_ne _ _ e] at hb;by_cases aj:c=i
   ·subst aj;rw [upd_same];have O:=h.hh a c ah ai ab b hb;exact⟨aa λx=>Z b x O.1,aa λx=>(ag b x).elim (λy=>y O.2) λy=>y O.1⟩
   ·rw [upd_ne _ _ aj];exact h.hh a c ah ai ab b hb
 ·intro j K b hb;by_cases e:j=i
  ·subst e;rw [upd_same];have O:=h.sh j K b hb;exact⟨aa λx=>Z b x O.1,aa λx=>(ag b x).elim (λy=>y O.2) λy=>y O.1⟩
  ·rw [upd_ne _ _ e];exact h.sh j K b hb
 ·exact h.F4
 ·exact h.clean
 ·exact h.low
 ·intro j K b hb x a U Y;by_cases e:j=i
  ·subst e;rw [upd_same] at hb;exact h.kH j K b (Z b hb) x a U Y
  ·rw [upd_ne _ _ e] at hb;exact h.kH j K b hb x a U Y
 ·intro j K b hb x a U Y ak;by_cases e:j=i
  ·subst e;rw [upd_same] at hb;rcases ag b hb with y | y
   ·exact h.kE j K b y x a U Y ak
   ·exact h.kH j K b y x a U Y
  ·rw [upd_ne _ _ e] at hb;exact h.kE j K b hb x a U Y ak
end Pal
namespace Pal
open Go Go.Conc
open Go.ConcN (sumTo upd sumTo_upd upd_ne upd_same)
abbrev St.none:St:=St.quiet
def F7(o o':Os):Prop:=∃d:Nat,o'={o with wall:=o.wall+d,mono:=o.mono+d}
theorem F7.refl(o:Os):F7 o o:=⟨0,rfl⟩
theorem F7.of{o o':Os}(h:o'=o):F7 o o':=h▸ .refl o
theorem F7.trans{a b c:Os}(h:F7 a b)(k:F7 b c):F7 a c:=by
 obtain⟨d,rfl⟩:=h;obtain⟨e,rfl⟩:=k;exact⟨d+e,by simp [Nat.add_assoc]⟩
def lone(s:St):Nat->St:=λi=>if i=0 then s else St.none
structure Hd (P:Program) (gs:Array Goroutine) (w:World) (t:Trace) (q:Nat->Nat) (Sh:Nat->Prop) (g:Goroutine) (s:St):Prop where
 main:gs[0]? =some g
 lv:Leavers P t gs q
 B3:BP t w gs.size (lone s) Sh
 over:t.HandedOver
 hears:Deaf t 0=0
def Reaches(P:Program)(gs:Array Goroutine)(w:World)(sl:Option (Nat×Nat))(t:Trace)(s:St)(K:Gs_):Prop:=
 ∃(n:Nat) (gs':Array Goroutine) (w':World) (U:Option (Nat×Nat)) (O:Trace) (q':Nat->Nat) (Y:Nat->Prop) (g':Goroutine) (s':St),
  runNT P n (crowd gs w sl) t=(.next (crowd gs' w' U),O)/\Hd P gs' w' O q' Y g' s'/\K g' s'/\Le' s s'/\w'.tape=w.tape/\F7 w.os w'.os/\w'.output=w.output
 where
  Le' (s s' : St) : Prop := ∀ b o, s.E b = some o -> s'.E b = some o
theorem QU{s s':St}:upd (lone s) 0 s'=lone s':=by
 funext i;unfold upd lone;split <;> rfl
theorem Ms{P:Program}{m m':Machine}{t ops:Trace}{k:Nat}{r:Stepped×Trace}(h:stepT P m=(.next m',ops))(K:runNT P k m' (t++ops)=r):runNT P (k+1) m t=r:=by
 simp only [runNT,h];exact K
theorem Hd.at_{P:Program}{gs:Array Goroutine}{w:World}{t:Trace}{q:Nat->Nat}{Sh:Nat->Prop}{g:Goroutine}{s:St}(h:Hd P gs w t q Sh g s)(d:Nat):Hd P gs (w.at d) t q Sh g s:=
 ⟨h.main,h.lv,by
  have:=h.B3.mute (u:= #[]) (w':=w.at d) (g:=0) (by simp) (by simp) (by simp) rfl
  simpa using this,h.over,h.hears⟩
theorem Uw{P:Program}{g:Goroutine}{s:St}{K:Gs_}(aw:Sn P true g s K):
  ∀(M:Nat) (gs:Array Goroutine) (w:World) (sl:Option (Nat×Nat)) (t:Trace) (q:Nat->Nat) (Sh:Nat->Prop),sumTo gs.size q<=M->Hd P gs w t q Sh g s->Reaches P gs w sl t s K:=by
 intro M
 induction M with
 | zero=>?_
 | succ M aC=>?_
 all_goals
  intro gs w sl t q Sh aR hC;have aj:=aw.1;have aD:∀x∈gs,awake x:=by
   intro x ac;obtain⟨i,hi,rfl⟩:=Array.mem_iff_getElem.1 ac;rcases Nat.eq_zero_or_pos i with rfl | ak
   ·have:gs[0]=g:=by simpa [Array.getElem?_eq_getElem hi] using hC.main
    rw [this];exact awake_of (.inl aj)
   ·exact awake_of ((hC.lv.old i _ ak (Array.getElem?_eq_getElem hi)).status.elim .inl λx=> .inr (.inr x))
  obtain⟨i,x,d,ae,hi,ac,ay⟩:=crowd_pick (P:=P) (w:=w) (sl:=sl) aD ⟨0,g,hC.main,aj⟩;have al:=hC.at_ d;have am:0<gs.size:=(Array.getElem?_eq_some_iff.1 hC.main).1;rcases Nat.eq_zero_or_pos i with rfl | ak
  ·obtain rfl:x=g:=by rw [hC.main] at hi;exact(Option.some.inj hi).symm
   have aE:Fits s (w.at d):=al.B3.fits 0 am;obtain⟨g',s',w',es,an,ao,ap,Z,ag⟩:=aw.2.1 (w.at d) aE;have aq:=runT_crowd_go (P:=P) (sl:=ae) (i:=0) hi (show stepG P (0==0) x (w.at d)=_ from an);have ah:((gs.map (woken P x g' w')).setIfInBounds 0 g').size=gs.size:=by simp
   have Y:∀op∈MemOp.ofEvents 0 x.frame.fn x.frame.place es,op.g=0:=λop O=>by obtain⟨e,_,rfl⟩:=mem_ofEvents O;rfl
   have aF:deafBehind (Deaf t 0) es=Deaf t 0:=deafBehind_still (λe he=>by
    have:=ag e he
    unfold Ev at this
    constructor <;> intro aG <;> rw [aG] at this <;> exact this) _
   refine⟨1,_,w',ae,t++MemOp.ofEvents 0 x.frame.fn x.frame.place es,q,Sh,g',s',Ms (ay.trans aq) rfl,⟨by simp [am],⟨λj y U aa=>?_,λj U=>?_⟩,?_,?_,?_⟩,ao,Z.ext,Z.tape,.of Z.os,Z.output⟩
   ·have ar:0≠j:=by omega
    rw [Array.getElem?_setIfInBounds_ne ar,Array.getElem?_map] at aa;obtain⟨z,au,rfl⟩:=Option.map_eq_some_iff.1 aa;have ab:=hC.lv.old j z U au;rw [woken_quitsD ab,Deaf_other t (by omega) _ Y];exact ab
   ·rw [Deaf_other t (g':=0) (by simp at U;omega) _ Y];exact hC.lv.above j (by simpa using U)
   ·rw [ah,← QU (s:=s)];exact al.B3.own am ap (by simpa [lone] using Z) (by simpa [lone] using ag)
   ·exact handedOver_app hC.over λop O=> .inl (Y op O)
   ·rw [Deaf_own,aF];exact hC.hears
  ·
   have ab:=hC.lv.old i x ak hi;have aH:(i==0)=false:=by simp;omega
   have az:i<gs.size:=(Array.getElem?_eq_some_iff.1 hi).1;cases av:q i with
   | zero=>rw [av] at ab;rw [ab.1] at ac;cases ac
   | succ k=>
    rw [av] at ab;rcases ab with⟨aI,_⟩ | ⟨_,x',es,hm,aJ,aK⟩
    ·rw [aI] at ac;cases ac
    have aS:sumTo gs.size (upd q i k)+(k+1)=sumTo gs.size q+k:=by
     have:=sumTo_upd q k id az;simpa [av] using this
    first
     | (exfalso;omega)
     | (
      have aq:=runT_crowd_go (P:=P) (sl:=ae) (i:=i) hi (by rw [aH];exact aJ (w.at d))
      have ah:((gs.map (woken P x x' (w.at d))).setIfInBounds i x').size=gs.size:=by simp
      have Y:∀op∈MemOp.ofEvents i x.frame.fn x.frame.place es,op.g=i:=λop O=>by obtain⟨e,_,rfl⟩:=mem_ofEvents O;rfl
      have aA:∀op∈MemOp.ofEvents i x.frame.fn x.frame.place es,op.act.touch? =none:=λop O=>by obtain⟨e,he,rfl⟩:=mem_ofEvents O;exact touch_mute (hm e he)
      have aL:Hd P ((gs.map (woken P x x' (w.at d))).setIfInBounds i x') (w.at d) (t++MemOp.ofEvents i x.frame.fn x.frame.place es) (upd q i k) Sh g s:=by
       refine⟨?_,⟨λj y U aa=>?_,λj U=>?_⟩,?_,?_,?_⟩
       ·have ar:i≠0:=by omega
        rw [Array.getElem?_setIfInBounds_ne ar,Array.getElem?_map,hC.main]
        simp [woken_run aj]
       ·by_cases ai:i=j
        ·subst ai
         rw [Array.getElem?_setIfInBounds_self_of_lt (by simpa using az)] at aa
         obtain rfl:=Option.some.inj aa
         rw [upd_same,Deaf_own]
         exact aK
        ·rw [Array.getElem?_setIfInBounds_ne ai,Array.getElem?_map] at aa
         obtain⟨z,au,rfl⟩:=Option.map_eq_some_iff.1 aa
         have aB:=hC.lv.old j z U au
         rw [woken_quitsD aB,upd_ne q k (Ne.symm ai),Deaf_other t ai _ Y]
         exact aB
       ·rw [Deaf_other t (g':=i) (by simp at U;omega) _ Y]
        exact hC.lv.above j (by simpa using U)
       ·rw [ah]
        exact al.B3.mute Y aA (λop O=>by obtain⟨e,he,rfl⟩:=mem_ofEvents O;exact low_mute (hm e he) _) rfl
       ·exact handedOver_app hC.over λop O=> .inr (aA op O)
       ·rw [Deaf_other t (by omega) _ Y];exact hC.hears
      obtain⟨n,gs',w',aM,aN,q',aO,g',s',an,ao,ap,Z,ag,aP,aQ⟩:=aC _ (w.at d) ae _ _ Sh (by rw [ah];omega) aL
      exact⟨n+1,gs',w',aM,aN,q',aO,g',s',Ms (ay.trans aq) an,ao,ap,Z,ag,aP,aQ⟩)
def Gx(P:Program):Judge P where
 main:=true
 ok Q g s:=∀gs w sl t q Sh,Hd P gs w t q Sh g s->Reaches P gs w sl t s Q
 stop {Q g s} h:=λgs w sl t q Sh hC=>⟨0,gs,w,sl,t,q,Sh,g,s,rfl,hC,h,λ_ _ h=>h,rfl,.refl _,rfl⟩
 step {Q g s} h:=λgs w sl t q Sh hC=>by
  obtain⟨n,gs',w',K,O,q',U,g',s',Y,Z,aa,ab,ac,ae,ag⟩:=Uw h _ gs w sl t q Sh (Nat.le_refl _) hC
  obtain⟨ah,ai,aj,ak,al,am,an,ao,ap,k1,aq,ar,au,av,aw,ay⟩:=aa gs' w' K O q' U Z
  refine⟨n+ah,ai,aj,ak,al,am,an,ao,ap,?_,aq,ar,λb o h=>au b o (ab b o h),av.trans ac,ae.trans aw,ay.trans ag⟩
  rw [runNT_add,Y];exact k1
 trans {Q R g s} h k:=λgs w sl t q Sh hC=>by
  obtain⟨n,gs',w',K,O,q',U,g',s',Y,Z,aa,ab,ac,ae,ag⟩:=h gs w sl t q Sh hC
  obtain⟨ah,ai,aj,ak,al,am,an,ao,ap,k1,aq,ar,au,av,aw,ay⟩:=k g' s' aa gs' w' K O q' U Z
  refine⟨n+ah,ai,aj,ak,al,am,an,ao,ap,?_,aq,ar,λb o h=>au b o (ab b o h),av.trans ac,ae.trans aw,ay.trans ag⟩
  rw [runNT_add,Y];exact k1
 ghost {Q g s s₀} az h:=λgs w sl t q Sh hC=>by
  have aA:0<gs.size:=(Array.getElem?_eq_some_iff.1 hC.main).1
  have aB:Hd P gs w t q Sh g s₀:=⟨hC.main,hC.lv,by
   rw [← QU (s:=s)];exact hC.B3.ghost aA (by simpa [lone] using az),hC.over,hC.hears⟩
  obtain⟨n,gs',w',K,O,q',U,g',s',Y,Z,aa,ab,ac,ae,ag⟩:=h gs w sl t q Sh aB
  exact⟨n,gs',w',K,O,q',U,g',s',Y,Z,aa,λb o h=>ab b o (az.ext b o h),ac,ae,ag⟩
end Pal
namespace Pal
open Go Go.Conc
open Go.ConcN (upd upd_same upd_ne)
section
variable {t u:Trace}{w w':World}{N:Nat}{S:Nat->St}{Sh:Nat->Prop}
theorem BP.ext(h:BP t w N S Sh)(ab:∀said,¬Race said (t++u))(hu:∀op∈u,∀a,op.act.touch? =some a->∀b,CB a.loc=some b->Sh b)
  (ac:∀op∈u,op.act.low w.heap.size) (Z:w'.heap.size=w.heap.size) (hw:∀b,¬Sh b->w'.heap[b]? =w.heap[b]?):BP (t++u) w' N S Sh:=by
 have hold:∀x a b,touchAt (t++u) x=some a->CB a.loc=some b->¬Sh b->touchAt t x=some a:=by
  intro x a b U hb O;obtain⟨op,K,aa⟩:=touch_of U;rcases getElem?_append_cases K with⟨aj,ae⟩ | ⟨_,ag⟩
  ·rw [touchAt_of ae];exact aa
  ·exact absurd (hu op ag a aa b hb) O
 have O:∀i,i<N->∀b,((S i).H b≠none∨(S i).E b≠none)->¬Sh b:=by
  intro i hi b hb ah;have:=h.sh i hi b ah;exact hb.elim (λx=>x this.1) (λx=>x this.2)
 refine⟨λi hi=>⟨λb o K=>?_,λb o K=>?_,(h.fits i hi).d⟩,h.hh,h.sh,λb hb=>by rw [Z];exact h.F4 b hb,ab,λop K=>?_,λi hi b hb x a U Y=>?_,λi hi b hb x a U Y ai=>?_⟩
 ·rw [hw b (O i hi b (.inr (by rw [K];simp)))];exact(h.fits i hi).e b o K
 ·rw [hw b (O i hi b (.inl (by rw [K];simp)))];exact(h.fits i hi).h b o K
 ·rcases Array.mem_append.1 K with K | K
  ·rw [Z];exact h.low op K
  ·rw [Z];exact ac op K
 ·exact(h.kH i hi b hb x a (hold x a b U Y (O i hi b (.inl hb))) Y).app _
 ·exact(h.kE i hi b hb x a (hold x a b U Y (O i hi b (.inr hb))) Y ai).app _
theorem BP.congr{S':Nat->St}(h:BP t w N S Sh)(K:∀i,i<N->(S' i).E=(S i).E/\(S' i).H=(S i).H):BP t w N S' Sh:=by
 refine⟨λi hi=>⟨by rw [(K i hi).1];exact(h.fits i hi).e,by rw [(K i hi).2];exact(h.fits i hi).h,by rw [(K i hi).1,(K i hi).2];exact(h.fits i hi).d⟩,λi j hi O U b=>?_,λi hi b=>?_,h.F4,h.clean,h.low,λi hi b=>?_,λi hi b=>?_⟩
 ·rw [(K i hi).2,(K j O).1,(K j O).2];exact h.hh i j hi O U b
 ·rw [(K i hi).1,(K i hi).2];exact h.sh i hi b
 ·rw [(K i hi).2];exact h.kH i hi b
 ·rw [(K i hi).1];exact h.kE i hi b
theorem BP.less(h:BP t w N S Sh){i:Nat}{s':St}(ae:∀b o,s'.E b=some o->(S i).E b=some o)(ag:∀b o,s'.H b=some o->(S i).H b=some o):BP t w N (upd S i s') Sh:=by
 have Y:∀j b o,(upd S i s' j).E b=some o->(S j).E b=some o:=by
  intro j b o K;by_cases e:j=i
  ·subst e;rw [upd_same] at K;exact ae b o K
  ·rwa [upd_ne _ _ e] at K
 have e2:∀j b o,(upd S i s' j).H b=some o->(S j).H b=some o:=by
  intro j b o K;by_cases e:j=i
  ·subst e;rw [upd_same] at K;exact ag b o K
  ·rwa [upd_ne _ _ e] at K
 have n1:∀j b,(S j).E b=none->(upd S i s' j).E b=none:=by
  intro j b hb;cases U:(upd S i s' j).E b with
  | none=>rfl
  | some o=>rw [Y j b o U] at hb;cases hb
 have n2:∀j b,(S j).H b=none->(upd S i s' j).H b=none:=by
  intro j b hb;cases U:(upd S i s' j).H b with
  | none=>rfl
  | some o=>rw [e2 j b o U] at hb;cases hb
 have Z:∀j b,(upd S i s' j).E b≠none->(S j).E b≠none:=λj b hb x=>hb (n1 j b x);have p2:∀j b,(upd S i s' j).H b≠none->(S j).H b≠none:=λj b hb x=>hb (n2 j b x);exact⟨λj O=>⟨λb o K=>(h.fits j O).e b o (Y j b o K),λb o K=>(h.fits j O).h b o (e2 j b o K),λb hb=>n2 j b ((h.fits j O).d b (Z j b hb))⟩,
  λa c aa ab ac b hb=>⟨n2 c b (h.hh a c aa ab ac b (p2 a b hb)).1,n1 c b (h.hh a c aa ab ac b (p2 a b hb)).2⟩,
  λj O b hb=>⟨n2 j b (h.sh j O b hb).1,n1 j b (h.sh j O b hb).2⟩,h.F4,h.clean,h.low,
  λj O b hb=>h.kH j O b (p2 j b hb),λj O b hb=>h.kE j O b (Z j b hb)⟩
theorem BP.push(h:BP t w N S Sh){i:Nat}(hi:i<N){E:LH}(aa:∀b o,E b=some o->(S i).E b=some o)
  (ae:∀b,E b≠none->∀x a,touchAt t x=some a->CB a.loc=some b->a.write=true->Knows t N x):BP t w (N+1) (upd S N ⟨E,λ_=>none,false⟩) Sh:=by
 have O:∀j,j<N->upd S N ⟨E,λ_=>none,false⟩ j=S j:=λj K=>upd_ne _ _ (by omega);have ah:∀b,E b≠none->(S i).E b≠none:=λb hb=>by obtain⟨o,Y⟩:=HR hb;rw [aa b o Y];simp
 have ac:∀b,(S i).E b=none->E b=none:=λb hb=>by
  cases ab:E b with
  | none=>rfl
  | some o=>rw [aa b o ab] at hb;cases hb
 have cs:∀j,j<N+1->j<N∨j=N:=λj K=>by omega
 constructor
 ·intro j K;rcases cs j K with K | rfl
  ·rw [O j K];exact h.fits j K
  ·rw [upd_same];exact⟨λb o Y=>(h.fits i hi).e b o (aa b o Y),λb o Y=>(by cases Y),λb _=>rfl⟩
 ·intro a c U Z ag b hb;rcases cs a U with U | rfl
  ·rw [O a U] at hb;rcases cs c Z with Z | rfl
   ·rw [O c Z];exact h.hh a c U Z ag b hb
   ·rw [upd_same];refine⟨rfl,ac b ?_⟩;by_cases e:a=i
    ·subst e;cases ab:(S a).E b with
     | none=>rfl
     | some o=>exact absurd ((h.fits a U).d b (by rw [ab];simp)) hb
    ·exact(h.hh a i U hi e b hb).2
  ·rw [upd_same] at hb;exact absurd rfl hb
 ·intro j K b hb;rcases cs j K with K | rfl
  ·rw [O j K];exact h.sh j K b hb
  ·rw [upd_same];exact⟨rfl,ac b (h.sh i hi b hb).2⟩
 ·exact h.F4
 ·exact h.clean
 ·exact h.low
 ·intro j K b hb;rcases cs j K with K | rfl
  ·rw [O j K] at hb;exact h.kH j K b hb
  ·rw [upd_same] at hb;exact absurd rfl hb
 ·intro j K b hb;rcases cs j K with K | rfl
  ·rw [O j K] at hb;exact h.kE j K b hb
  ·rw [upd_same] at hb;exact ae b hb
theorem BP.share(h:BP t w N S Sh){i:Nat}(hi:i<N){b₀:Nat}{o₀:Obj}(U:(S i).H b₀=some o₀):
  BP t w N (upd S i {S i with H:=λb=>if b=b₀ then none else(S i).H b}) (λb=>Sh b∨b=b₀):=by
 have K:BP t w N (upd S i {S i with H:=λb=>if b=b₀ then none else(S i).H b}) Sh:=
  h.less (λb o O=>O) (λb o O=>by simp only at O;split at O <;> first | (cases O;done) | exact O)
 have aa:b₀<w.heap.size:=by
  have:=(h.fits i hi).h b₀ o₀ U;rcases Nat.lt_or_ge b₀ w.heap.size with Y | Y
  ·exact Y
  ·simp [Array.getElem?_eq_none Y] at this
 refine⟨K.fits,K.hh,λj Z b hb=>?_,λb hb=>hb.elim (K.F4 b) (λe=>e▸aa),K.clean,K.low,K.kH,K.kE⟩;rcases hb with hb | rfl
 ·exact K.sh j Z b hb
 ·by_cases e:j=i
  ·subst e;rw [upd_same];refine⟨by simp,?_⟩;cases ab:(S j).E b with
   | none=>rfl
   | some o=>have:=(h.fits j Z).d b (by rw [ab];simp);rw [U] at this;cases this
  ·rw [upd_ne _ _ e];exact h.hh i j hi Z (Ne.symm e) b (by rw [U];simp)
end
end Pal
namespace Pal
open Go Go.Conc
open Go.ConcN (upd upd_same upd_ne sumTo sumTo_upd)
abbrev GP:=Gs_
structure M4 where
 l:Bool
 k:Bool
 s:Bool
 w:Nat
instance:DecidableEq M4:=λa b=>decidable_of_iff (a.l=b.l/\a.k=b.k/\a.s=b.s/\a.w=b.w) ⟨λh=>by cases a;cases b;simp_all,λh=>by subst h;simp⟩
def M4.zero:M4:=⟨false,false,false,0⟩
def M4.num(m:M4):Int:=((m.l.toNat+2*m.k.toNat+4*m.s.toNat+8*m.w:Nat):Int)
inductive LP where
 | FX | G5 | DO (sv aw:Bool) (it:Nat) | Ca (sv aw:Bool) (it:Nat) (old:M4) | H3 (sv:Bool) | Cl (sv:Bool) | FW | Ek (sv:Bool) | DJ (ex:Bool) | len | Kt | Jw | EP
 | Gn | JM | JI | Jy | HE | Ew (old:M4) | G8 | EO (st:Bool) | ES
inductive Ph where
 | G4 (k:Nat) | Gj | IA | Ha | GA | G2 | EZ
 | C7 | FV (m:Nat) | Hb (v:Nat) | HF | Fo | G3 | FY | F5 | Hw
 | F3 (j:Nat) | Ib (j:Nat) | Hy (j:Nat) | GI (j:Nat) | FG (j:Nat) | GD | Fy (K:List Nat) (vs:Lv_)
 | HG | Ig | Ie | Il (j:Nat)
 | lk (k:Nat) (p:LP)
inductive Nx where
 | ph (p:Ph) | gone (d:Nat)
structure Fam where
 wg:Nat
 mu:Nat
 fd:Nat
 ty:TypeId
 Z0:TypeId
 ZX:TypeId
 n:Nat
 msg:Nat->Value->LH->Prop
 fin:GP
namespace Fam
variable (F:Fam)
def has(_:Fam)(_:Nat):Bool:=false
def KK:Int:=4294967296
def HH(st sm:Int):Obj:= .cells #[.int .u64 st,.int .u32 sm] F.ty (0,0)
def word(v wt:Nat):Int:=(v:Int)*KK+wt
def WG(w:World)(v wt sm:Nat):Prop:=w.heap[F.wg]? =some (F.HH (word v wt) sm)
def put(w:World)(v wt sm:Nat):World:={w with heap:=w.heap.setIfInBounds F.wg (F.HH (word v wt) sm)}
def sA:Addr:=⟨F.wg,0,none⟩
def mA:Addr:=⟨F.wg,1,none⟩
def HJ(st sm:Int):Obj:= .cells #[.int .i32 st,.int .u32 sm] F.Z0 (0,0)
def MU(w:World)(m:M4)(q:Nat):Prop:=w.heap[F.mu]? =some (F.HJ m.num q)
def FA(w:World)(m:M4)(q:Nat):World:={w with heap:=w.heap.setIfInBounds F.mu (F.HJ m.num q)}
def uA:Addr:=⟨F.mu,0,none⟩
def qA:Addr:=⟨F.mu,1,none⟩
def Ih(f:Nat->Value):Obj:= .cells (Array.ofFn λi:Fin F.n=>f i) F.ZX (0,0)
def FD(w:World)(f:Nat->Value):Prop:=w.heap[F.fd]? =some (F.Ih f)
def G7(w:World)(f:Nat->Value):World:={w with heap:=w.heap.setIfInBounds F.fd (F.Ih f)}
def B6(a:Addr):Event:=⟨.cell a,false,true⟩
def Ee(a:Addr):Event:=⟨.cell a,true,true⟩
def Cu(m:Mark):Event:=⟨.mark m,false,true⟩
def act:Ph->Nat->Nat->Nat->Option ((Nat×Nat×Nat)×Array Event×Nx)
 | .Gj,v,wt,sm=>some ((v,wt,sm),#[Cu (.releaseMerge F.sA)],.ph .IA)
 | .IA,v,wt,sm=>some ((v,wt,sm),#[Cu .disable],.ph .Ha)
 | .Ha,v,wt,sm=>if 1<=v/\v<2147483648/\wt<=1 then some ((v - 1,wt,sm),#[B6 F.sA,Ee F.sA],if v=1/\wt=1 then .ph .GA else .gone 1) else none
 | .GA,v,wt,sm=>if v=0/\wt=1 then some ((0,1,sm),#[B6 F.sA],.ph .G2) else none
 | .G2,v,wt,sm=>if v=0/\wt=1 then some ((0,0,sm),#[Ee F.sA],.ph .EZ) else none
 | .EZ,v,wt,sm=>if sm=0 then some ((v,wt,1),semEvents F.mA,.gone 1) else none
 | .C7,v,wt,sm=>some ((v,wt,sm),#[Cu .disable],.ph (.FV F.n))
 | .FV m,v,wt,sm=>if v<=m/\wt=0 then some ((v,0,sm),#[B6 F.sA],if v=0 then .ph .FY else .ph (.Hb v)) else none
 | .Hb m,v,wt,sm=>if v<=m/\1<=m/\wt=0 then some (if v=m then((v,1,sm),#[B6 F.sA,Ee F.sA],.ph .Ig) else((v,0,sm),#[B6 F.sA],.ph (.FV (m - 1)))) else none
 | .HF,v,wt,sm=>some ((v,wt,sm),#[Cu (.write F.mA)],.ph .Fo)
 | .Fo,v,wt,sm=>if sm=1 then some ((v,wt,0),semEvents F.mA,.ph .G3) else none
 | .G3,v,wt,sm=>if v=0/\wt=0 then some ((0,0,sm),#[B6 F.sA],.ph .FY) else none
 | .FY,v,wt,sm=>some ((v,wt,sm),#[Cu .enable],.ph .Ie)
 | .HG,v,wt,sm=>some ((v,wt,sm),#[],.ph .Gj)
 | .Ig,v,wt,sm=>some ((v,wt,sm),#[],.ph .HF)
 | .Ie,v,wt,sm=>some ((v,wt,sm),#[],.ph .F5)
 | .Il j,v,wt,sm=>some ((v,wt,sm),#[],.ph (.Hy j))
 | .F3 j,v,wt,sm=>some ((v,wt,sm),#[Cu .disable],.ph (.Ib j))
 | .Ib j,v,wt,sm=>if v<2147483647/\wt=0 then some ((v+1,0,sm),#[B6 F.sA,Ee F.sA],if v=0 then .ph (.Il j) else .ph (.GI j)) else none
 | .Hy j,v,wt,sm=>some ((v,wt,sm),#[Cu (.read F.mA)],.ph (.GI j))
 | .GI j,v,wt,sm=>some ((v,wt,sm),#[Cu .enable],.ph (.FG j))
 | _,_,_,_=>none
abbrev LO:=M4×Nat×Array Event×Option LP
def Fl(sv aw:Bool)(it:Nat)(old m:M4)(q:Nat):List LO:=
 (if old.l=true/\old.s=false/\it<4 then
  (if aw=false/\old.k=false/\old.w≠0 then
   [if m=old then({m with k:=true},q,#[B6 F.uA,Ee F.uA],some (.DO sv true (it+1))) else(m,q,#[B6 F.uA],some (.DO sv aw (it+1)))]
  else [(m,q,#[],some (.Ca sv aw (it+1) m))])
 else [])++
 (if m=old then
  (if old.l=false/\old.s=false then [({m with l:=true,k:= !aw&&m.k},q,#[B6 F.uA,Ee F.uA],some .len)]
  else [({m with k:= !aw&&m.k,s:=m.s || (sv&&m.l),w:=m.w+1},q,#[B6 F.uA,Ee F.uA],some (.H3 sv)),({m with k:= !aw&&m.k,s:=m.s || (sv&&m.l),w:=m.w+1},q,#[B6 F.uA,Ee F.uA],some (.Cl sv))])
 else [(m,q,#[B6 F.uA],some (.DO sv aw it))])
def BQ:LP->M4->Nat->List LO
 | .FX,m,q=> [(m,q,#[Cu .disable],some .G5)]
 | .G5,m,q=>if m=M4.zero then [(⟨true,false,false,0⟩,q,#[B6 F.uA,Ee F.uA],some .len)] else [(m,q,#[B6 F.uA],some (.DO false false 0))]
 | .DO sv aw it,m,q=> [(m,q,#[],some (.Ca sv aw it m))]
 | .Ca sv aw it old,m,q=>F.Fl sv aw it old m q
 | .H3 sv,m,q=> [(m,q,#[],some (.Cl sv))]
 | .Cl sv,m,q=> [(m,q - 1,semEvents F.qA,some (if sv then .Ek true else .FW))]
 | .FW,m,q=> [(m,q,#[],some (.Ek false)),(m,q,#[],some (.Ek true))]
 | .Ek sv,m,q=>if m.s=true then [(m,q,#[],some (.DJ (!sv || m.w==1)))] else [(m,q,#[],some (.Ca sv true 0 m))]
 | .DJ ex,m,q=> [(⟨true,m.k,!ex,m.w - 1⟩,q,#[B6 F.uA,Ee F.uA],some .len)]
 | .len,m,q=> [(m,q,#[Cu .enable],some .Kt)]
 | .Kt,m,q=> [(m,q,#[],some .Jw)]
 | .Jw,m,q=> [(m,q,#[Cu (.acquire F.uA)],some .EP)]
 | .EP,_,_=> []
 | .Gn,m,q=> [(m,q,#[],some .JM)]
 | .JM,m,q=> [(m,q,#[],some .JI)]
 | .JI,m,q=> [(m,q,#[Cu (.releaseMerge F.uA)],some .Jy)]
 | .Jy,m,q=> [(m,q,#[Cu .disable],some .HE)]
 | .HE,m,q=> [({m with l:=false},q,#[B6 F.uA,Ee F.uA],some (if m.s=true then .EO true else if m.k=false/\m.w≠0 then .Ew {m with l:=false} else .ES))]
 | .Ew old,m,q=>if m=old then [(⟨false,true,false,old.w - 1⟩,q,#[B6 F.uA,Ee F.uA],some (.EO false))] else [(m,q,#[B6 F.uA],some .G8)]
 | .G8,m,q=> [(m,q,#[],some (if m.l=false/\m.k=false/\m.s=false/\m.w≠0 then .Ew m else .ES))]
 | .EO _,m,q=> [(m,q+1,semEvents F.qA,some .ES)]
 | .ES,m,q=> [(m,q,#[Cu .enable],none)]
def Cr:Ph->Bool
 | .F3 _ | .Ib _ | .Hy _ | .GI _ | .FG _ | .GD | .Fy _ _ | .Il _=>true
 | .C7 | .FV _ | .Hb _ | .HF | .Fo | .G3 | .FY | .F5 | .Hw | .Ig | .Ie=>true
 | _=>false
def Cz:Ph->Bool
 | .IA | .Ha | .GA | .G2 | .EZ=>true
 | _=>false
def I6:Ph->St->St
 | .Gj,_=> .quiet
 | _,s=>s
def start(_:Fam)(k:Nat):Ph:= .lk k .FX
def Fi(j:Nat):Ph:=if j+1=F.n then .GD else .F3 (j+1)
def El(j:Nat):Ph:=if j+1=F.n then .C7 else .F3 (j+1)
def CW(k:Nat):Option LP->Ph
 | some p=> .lk k p
 | none=> .HG
end Fam
def CR(m:M4):Prop:=m.w<134217728
def Di:LP->M4->Nat->Prop
 | .Ca sv aw it old,m,_=>(aw=true->old.k=true)/\(sv=true->aw=true)/\it<=4/\CR old/\CR m/\(aw=true->m.k=true)
 | .DO sv aw it,m,_=>(sv=true->aw=true)/\it<=4/\CR m/\(aw=true->m.k=true)
 | .Cl _,_,q=>q≠0
 | .Ek _,m,_=>(m.s=true->m.l=false/\m.k=false/\m.w≠0)/\(m.s=false->m.k=true)/\CR m
 | .DJ ex,m,_=>m.s=true/\m.l=false/\m.k=false/\1<=m.w/\(ex=false->2<=m.w)/\CR m
 | .HE,m,_=>m.l=true/\CR m
 | .Ew old,m,_=>old.l=false/\old.k=false/\old.s=false/\old.w≠0/\CR old/\CR m
 | .EO _,m,q=>q<=1/\CR m
 | _,m,_=>CR m
def Way(P:Program)(main:Bool)(X:GP):GP:=(AR P main).ok X
theorem Jr.Ag{P:Program}{main:Bool}{Q K:GP}(h:∀g s,Q g s->K g s):∀{r:Rk} {g:Goroutine} {s:St},Jr P main Q r g s->Jr P main K r g s
 | .leaf,_,_,x=>h _ _ x
 | .node _,_,_,.inl x=> .inl (h _ _ x)
 | .node _,_,_,.inr ⟨O,x⟩=> .inr ⟨O,λw f=>let ⟨g',s',w',es,U,Y,Z⟩:=x w f;⟨g',s',w',es,U,Jr.Ag h Y,Z⟩⟩
theorem Way.Ag{P:Program}{main:Bool}{Q K:GP}(h:∀g s,Q g s->K g s){g:Goroutine}{s:St}(x:Way P main Q g s):Way P main K g s:=
 let ⟨r,O⟩:=x;⟨r,Jr.Ag (λg s ⟨s₀,a,b⟩=>⟨s₀,a,h g s₀ b⟩) O⟩
def Gm(w K w':World):Prop:=w'.heap=K.heap/\w'.tape=w.tape/\F7 w.os w'.os/\w'.output=w.output
section
variable (P:Program)(F:Fam)
def LX(X:Ph->GP)(main:Bool):Nx->GP
 | .ph p,g,s=>Way P main (X p) g s
 | .gone d,g,_=>∃q,QuitsD P q d g
def Fam.Jp(H:LH)(f:Nat->Value):LH:=λb=>if b=F.fd then some (F.Ih f) else H b
structure GL (X:Ph->GP) (p:Ph) (g:Goroutine) (s:St):Prop where
 run:g.status= .running
 offers:g.offers=none
 quiet:Fam.Cz p=true->s= .quiet
 live:Fam.Cz p=false->s.q=false
 act:∀v wt sm v' wt' sm' es K,F.act p v wt sm=some ((v',wt',sm'),es,K)->
  ∃g',(∀w,F.WG w v wt sm->stepG P (Fam.Cr p) g w= .go g' (F.put w v' wt' sm') es)/\g'.status= .running/\LX P X (Fam.Cr p) K g' (Fam.I6 p s)
 Iy:(p= .EZ∨∃k b,p= .lk k (.EO b))->mayWake P g=true
 ER:p= .Fo->∀w v wt,F.WG w v wt 0->stepG P true g w= .go {g with status:= .blocked} w #[]
 go:∀j,p= .FG j->∃g' child,g'.status= .running/\child.status= .running/\(∀w,stepG P true g w= .spawn g' child w #[])/\Way P false (X (F.start j)) child ⟨s.E,λ_=>none,false⟩/\Way P true (X (F.El j)) g' s
 lk:∀k l,p= .lk k l->l≠ .EP->∀w m q,F.MU w m q->Di l m q->∃m' q' es x g' w',(m',q',es,x)∈F.BQ l m q/\stepG P false g w= .go g' w' es/\Gm w (F.FA w m' q') w'/\g'.status= .running/\Way P false (X (Fam.CW k x)) g' s
 Cl:∀k sv,p= .lk k (.Cl sv)->∀w m,F.MU w m 0->stepG P false g w= .go {g with status:= .blocked} w #[]
 store:∀k,p= .lk k .EP->∃v,F.msg k v s.E/\∃g',g'.status= .running/\(∀w f,F.FD w f->stepG P false g w= .go g' (F.G7 w (upd f k v)) #[⟨.cell ⟨F.fd,k,none⟩,true,false⟩])/\Way P false (X (.lk k .Gn)) g' s
 fin:p= .F5->∃g',(∀w,stepG P true g w= .go g' w #[Fam.Cu (.acquire F.sA)])/\∀E' f,Le s.E E'->E' F.fd=none->(∀b,E' b≠none->s.H b=none)->(∀k,k<F.n->F.msg k (f k) E')->F.fin g' ⟨E',F.Jp s.H f,false⟩
theorem LX.Ag{X O:Ph->GP}(h:∀p g s,X p g s->O p g s){main:Bool}{K:Nx}{g:Goroutine}{s:St}(x:LX P X main K g s):LX P O main K g s:=by
 cases K with
 | ph p=>exact Way.Ag (h p) x
 | gone d=>exact x
theorem GL.Ag{X aa:Ph->GP}(h:∀p g s,X p g s->aa p g s){p:Ph}{g:Goroutine}{s:St}(x:GL P F X p g s):GL P F aa p g s where
 run:=x.run
 offers:=x.offers
 quiet:=x.quiet
 live:=x.live
 act v wt sm v' wt' sm' es ab e:=let ⟨g',K,O,U⟩:=x.act v wt sm v' wt' sm' es ab e;⟨g',K,O,U.Ag P h⟩
 Iy:=x.Iy
 ER:=x.ER
 go j e:=let ⟨g',c,K,O,U,Y,Z⟩:=x.go j e;⟨g',c,K,O,U,Y.Ag (h _),Z.Ag (h _)⟩
 lk k l e ac w m q hm ae:=let ⟨m',q',es,y,g',w',K,O,U,Y,Z⟩:=x.lk k l e ac w m q hm ae;⟨m',q',es,y,g',w',K,O,U,Y,Z.Ag (h _)⟩
 Cl:=x.Cl
 store k e:=let ⟨v,K,g',O,U,Y⟩:=x.store k e;⟨v,K,g',O,U,Y.Ag (h _)⟩
 fin:=x.fin
def Stop(p:Ph)(g:Goroutine)(s:St):Prop:=∃X:Ph->GP,(∀p g s,X p g s->GL P F X p g s)/\X p g s
variable {P F}
theorem Stop.law{p:Ph}{g:Goroutine}{s:St}(h:Stop P F p g s):GL P F (Stop P F) p g s:=by
 obtain⟨X,O,K⟩:=h;exact(O p g s K).Ag P F λp g s K=>⟨X,O,K⟩
theorem GL.stop{p:Ph}{g:Goroutine}{s:St}(h:GL P F (Stop P F) p g s):Stop P F p g s:=
 ⟨λp g s=>GL P F (Stop P F) p g s,λ_ _ _ x=>x.Ag P F λ_ _ _ y=>y.law,h⟩
end
end Pal
