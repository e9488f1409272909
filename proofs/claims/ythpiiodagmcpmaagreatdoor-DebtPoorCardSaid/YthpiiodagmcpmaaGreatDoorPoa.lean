/- DebtPoor: a part (1 of 9) of the proof of its row. -/
import Derived.Conc.Own5
import Derived.Conc.Listed
import Derived.Conc.DeferLaws
import Derived.Orders
import Derived.Conc.Beside
set_option linter.all false
set_option maxRecDepth 100000
namespace Pal
open Go Go.Conc
theorem V{α:Sort _}{a:α}:a=a:=rfl
abbrev LH:=Nat->Option Obj
structure St where
 E:LH
 H:LH
 q:Bool
abbrev Ld_:=List Deferred
abbrev Ao_:=Array Oper
abbrev Li_:=List Item
abbrev Lf_:=List Frame
abbrev On_:=Option (Nat×Bool)
abbrev Ae_:=Array Edge
abbrev Gs_:=Goroutine->St->Prop
abbrev Lv_:=List Value
abbrev Av_:=Array Value
def St.get(s:St)(b:Nat):Option Obj:=match s.E b with | some o=>some o | none=>s.H b
structure Fits (s:St) (w:World):Prop where
 e:∀b o,s.E b=some o->w.heap[b]? =some o
 h:∀b o,s.H b=some o->w.heap[b]? =some o
 d:∀b,s.E b≠none->s.H b=none
theorem Fits.get{s:St}{w:World}(f:Fits s w){b:Nat}{o:Obj}(h:s.get b=some o):w.heap[b]? =some o:=by
 unfold St.get at h;split at h
 .rename_i o' K;cases h;exact f.e _ _ K
 .exact f.h _ _ h
theorem Fits.W8{s:St}{w:World}(f:Fits s w){b:Nat}{o:Obj}(h:s.H b=some o):b<w.heap.size:=by
 have:=f.h _ _ h;rcases Nat.lt_or_ge b w.heap.size with K | K
 .exact K
 .simp [Array.getElem?_eq_none K] at this
theorem Fits.lt{s:St}{w:World}(f:Fits s w){b:Nat}{o:Obj}(h:s.get b=some o):b<w.heap.size:=by
 have:=f.get h;rcases Nat.lt_or_ge b w.heap.size with K | K
 .exact K
 .simp [Array.getElem?_eq_none K] at this
def cellAt(o:Obj)(a:Addr):Option Value:=match o with | .cells c _ _=>if a.spot.isSome then none else c[a.off]? | _=>none
def frozenAt(o:Obj)(a:Addr):Bool:=match o with | .cells _ _ (lo,hi)=>lo<=a.off&&a.off<hi | _=>false
def shapeOf(o:Obj):Option (TypeId×Nat):=match o with | .cells c e _=>some (e,c.size) | _=>none
def C5:Value->Bool | .agg _ | .tuple _=>false | _=>true
def Lu(o:Obj)(a:Addr)(v:Value):Obj:=match o with | .cells c e f=> .cells (if a.spot.isSome then c else c.setIfInBounds a.off v) e f | o=>o
def Ku(o:Obj):Bool:=match o with | .cells ..=>false | .chan ..=>false | .pending ..=>false | .view ..=>false | .number ..=>false | _=>true
def St.cell? (s:St)(a:Addr):Option Value:=(s.get a.block).bind (cellAt · a)
def St.upd(s:St)(b:Nat)(o:Obj):St:={s with H:=λx=>if x=b then some o else s.H x}
theorem Tp{w:World}{a:Addr}{o:Obj}(h:w.heap[a.block]? =some o):w.cell? a=cellAt o a:=by
 unfold World.cell? cellAt;rw [h];cases o <;> rfl
theorem SU{w:World}{a:Addr}{o:Obj}(h:w.heap[a.block]? =some o):w.frozen? a=frozenAt o a:=by
 unfold World.frozen? frozenAt;rw [h];cases o <;> rfl
theorem XB{w:World}{b:Nat}{o:Obj}(h:w.heap[b]? =some o):w.shape? b=shapeOf o:=by
 unfold World.shape? shapeOf;rw [h];cases o <;> rfl
def lp(P:Program){α:Type}:Sem α->St->(α->St->Prop)->(Halt->St->Prop)->Prop
 | .pure a,s,Q,_=>Q a s
 | .load m a k,s,Q,X=>m= .plain/\∃v,s.cell? a=some v/\lp P (k v) s Q X
 | .store m a v k,s,Q,X=>m= .plain/\C5 v=true/\∃o,s.H a.block=some o/\(cellAt o a).isSome=true/\frozenAt o a=false/\lp P k (s.upd a.block (Lu o a v)) Q X
 | .new o k,s,Q,X=>s.q=false/\∀r,s.E r=none->s.H r=none->lp P (k r) (s.upd r o) Q X
 | .shape r k,s,Q,X=>∃o,s.get r=some o/\lp P (k (shapeOf o)) s Q X
 | .freeze _ _ _,_,_,_=>False
 | .frozen a k,s,Q,X=>∃o,s.get a.block=some o/\lp P (k (frozenAt o a)) s Q X
 | .getObj r k,s,Q,X=>∃o,s.get r=some o/\Ku o=true/\lp P (k o) s Q X
 | .setObj r o k,s,Q,X=>(∃o₀,s.H r=some o₀/\Ku o₀=true)/\Ku o=true/\lp P k (s.upd r o) Q X
 | .choose q k,s,Q,X=>if q.forced then lp P (k 0) s Q X else s.q=false/\∀t,lp P (k (q.cut t)) s Q X
 | .sys _ _,_,_,_=>False
 | .program k,s,Q,X=>lp P (k P) s Q X
 | .mark m k,s,Q,X=>((s.q=false/\m= .noRoom)∨∃f,m= .extern f)/\lp P k s Q X
 | .halt h,s,_,X=>X h s
theorem Er{P:Program}{α:Type}(x:Sem α):∀{s:St} {Q Y:α->St->Prop} {X Z:Halt->St->Prop},lp P x s Q X->(∀a s,Q a s->Y a s)->(∀h s,X h s->Z h s)->lp P x s Y Z:=by
 induction x with
 | pure a=>intro s Q Y X Z h K O;exact K _ _ h
 | load m a k U=>intro s Q Y X Z h K O;obtain⟨ac,v,ag,al⟩:=h;exact⟨ac,v,ag,U _ al K O⟩
 | store m a v k U=>intro s Q Y X Z h K O;obtain⟨ac,ag,o,al,ap,aq,av⟩:=h;exact⟨ac,ag,o,al,ap,aq,U av K O⟩
 | new o k U=>intro s Q Y X Z h K O;exact⟨h.1,λr ac ag=>U _ (h.2 r ac ag) K O⟩
 | shape r k U=>intro s Q Y X Z h K O;obtain⟨o,ac,ag⟩:=h;exact⟨o,ac,U _ ag K O⟩
 | freeze a n k U=>intro s Q Y X Z h K O;exact h
 | frozen a k U=>intro s Q Y X Z h K O;obtain⟨o,ac,ag⟩:=h;exact⟨o,ac,U _ ag K O⟩
 | getObj r k U=>intro s Q Y X Z h K O;obtain⟨o,ac,ag,al⟩:=h;exact⟨o,ac,ag,U _ al K O⟩
 | setObj r o k U=>intro s Q Y X Z h K O;obtain⟨ac,ag,al⟩:=h;exact⟨ac,ag,U al K O⟩
 | choose q k U=>
  intro s Q Y X Z h K O;simp only [lp] at h ⊢;split
  .rename_i am;rw [if_pos am] at h;exact U _ h K O
  .rename_i am;rw [if_neg am] at h;exact⟨h.1,λt=>U _ (h.2 t) K O⟩
 | sys c k U=>intro s Q Y X Z h K O;exact h
 | program k U=>intro s Q Y X Z h K O;exact U _ h K O
 | mark m k U=>intro s Q Y X Z h K O;exact⟨h.1,U h.2 K O⟩
 | halt h=>intro s Q Y X Z h K O;exact O _ _ h
theorem Ay{P:Program}{α β:Type}(x:Sem α)(f:α->Sem β):∀{s:St} {Q:β->St->Prop} {X:Halt->St->Prop},lp P x s (λa s'=>lp P (f a) s' Q X) X->lp P (x>>=f) s Q X:=by
 show ∀{s:St} {Q:β->St->Prop} {X:Halt->St->Prop},lp P x s (λa s'=>lp P (f a) s' Q X) X->lp P (Sem.bind x f) s Q X
 induction x with
 | pure a=>intro s Q X h;exact h
 | load m a k K=>intro s Q X h;obtain⟨O,v,U,Y⟩:=h;exact⟨O,v,U,K _ Y⟩
 | store m a v k K=>intro s Q X h;obtain⟨O,U,o,Y,ac,ag,al⟩:=h;exact⟨O,U,o,Y,ac,ag,K al⟩
 | new o k K=>intro s Q X h;exact⟨h.1,λr O U=>K _ (h.2 r O U)⟩
 | shape r k K=>intro s Q X h;obtain⟨o,O,U⟩:=h;exact⟨o,O,K _ U⟩
 | freeze a n k K=>intro s Q X h;exact h
 | frozen a k K=>intro s Q X h;obtain⟨o,O,U⟩:=h;exact⟨o,O,K _ U⟩
 | getObj r k K=>intro s Q X h;obtain⟨o,O,U,Y⟩:=h;exact⟨o,O,U,K _ Y⟩
 | setObj r o k K=>intro s Q X h;obtain⟨O,U,Y⟩:=h;exact⟨O,U,K Y⟩
 | choose q k K=>
  intro s Q X h;simp only [lp,Sem.bind] at h ⊢;split
  .rename_i Z;rw [if_pos Z] at h;exact K _ h
  .rename_i Z;rw [if_neg Z] at h;exact⟨h.1,λt=>K _ (h.2 t)⟩
 | sys c k K=>intro s Q X h;exact h
 | program k K=>intro s Q X h;exact K _ h
 | mark m k K=>intro s Q X h;exact⟨h.1,K h.2⟩
 | halt h=>intro s Q X h;exact h
structure Fr (s:St) (w:World) (s':St) (w':World):Prop where
 size:w.heap.size<=w'.heap.size
 keep:∀b,b<w.heap.size->s.H b=none->w'.heap[b]? =w.heap[b]?
 own:∀b,s'.H b≠none->s.H b≠none∨w.heap.size<=b
 ext:∀b o,s.E b=some o->s'.E b=some o
 Fc:∀b,s'.E b≠none->s.E b≠none∨s.H b≠none∨w.heap.size<=b
 tape:w'.tape=w.tape
 os:w'.os=w.os
 output:w'.output=w.output
theorem Fr.refl(s:St)(w:World):Fr s w s w:=
 ⟨Nat.le_refl _,λ_ _ _=>V,λ_ h=> .inl h,λ_ _ h=>h,λ_ h=> .inl h,V,V,V⟩
theorem Fr.trans{s K O:St}{w U Y:World}(h:Fr s w K U)(k:Fr K U O Y):Fr s w O Y where
 size:=Nat.le_trans h.size k.size
 keep b hb Z:=by
  rw [k.keep b (Nat.lt_of_lt_of_le hb h.size) ?_,h.keep b hb Z];by_cases ac:K.H b=none
  .exact ac
  .rcases h.own b ac with x | x
   .exact absurd Z x
   .omega
 own b hb:=by
  rcases k.own b hb with x | x
  .exact h.own b x
  .exact .inr (Nat.le_trans h.size x)
 ext b o ag:=k.ext b o (h.ext b o ag)
 Fc b hb:=by
  rcases k.Fc b hb with x | x | x
  .exact h.Fc b x
  .rcases h.own b x with y | y
   .exact .inr (.inl y)
   .exact .inr (.inr y)
  .exact .inr (.inr (Nat.le_trans h.size x))
 tape:=k.tape.trans h.tape
 os:=k.os.trans h.os
 output:=k.output.trans h.output
def He(s:St)(w w':World)(b:Nat)(write:Bool):Prop:=
 b<w'.heap.size/\(s.H b≠none∨w.heap.size<=b∨(s.E b≠none/\write=false))
def Ev(s:St)(w w':World)(e:Event):Prop:=
 match e.loc with
 | .cell a=>e.sync=false/\He s w w' a.block e.write
 | .obj r=>e.sync=false/\He s w w' r e.write
 | .mark (.extern _)=>True
 | .mark .noRoom=>True
 | _=>False
theorem He.M{s K:St}{w O w' U:World}{b:Nat}{wr:Bool}(h:Fr s w K O)(Y:w'.heap.size<=U.heap.size)(t:He K O w' b wr):He s w U b wr:=by
 refine⟨Nat.lt_of_lt_of_le t.1 Y,?_⟩;rcases t.2 with x | x | ⟨x,y⟩
 .rcases h.own b x with z | z
  .exact .inl z
  .exact .inr (.inl z)
 .exact .inr (.inl (Nat.le_trans h.size x))
 .rcases h.Fc b x with z | z | z
  .exact .inr (.inr ⟨z,y⟩)
  .exact .inl z
  .exact .inr (.inl z)
theorem Ev.M{s K:St}{w O w' U:World}{e:Event}(h:Fr s w K O)(Y:w'.heap.size<=U.heap.size)(t:Ev K O w' e):Ev s w U e:=by
 unfold Ev at t ⊢;split <;> rename_i he <;> simp only [he] at t
 .exact⟨t.1,t.2.M h Y⟩
 .exact⟨t.1,t.2.M h Y⟩
 .trivial
 .trivial
def LJ{α:Type}:Result α->World | .ok _ w=>w | .halt _ w=>w
def gz{α:Type}(Q:α->St->Prop)(X:Halt->St->Prop)(s:St):Result α->Prop | .ok a _=>Q a s | .halt h _=>X h s
theorem Ux{s:St}{b:Nat}{o:Obj}(h:s.get b=some o)(K:s.H b=none):s.E b≠none:=by
 intro e;unfold St.get at h;rw [e] at h;simp only at h;rw [K] at h;cases h
theorem QS{s:St}{w w':World}{b:Nat}{o:Obj}(f:Fits s w)(U:s.E b=none)(hb:w'.heap[b]? =some o)(Y:∀c,c≠b->∀x,w.heap[c]? =some x->w'.heap[c]? =some x):Fits (s.upd b o) w' where
 e c x K:=by
  have O:c≠b:=λe=>by subst e;simp [St.upd] at K;rw [U] at K;cases K
  exact Y c O x (f.e c x K)
 h c x K:=by
  simp only [St.upd] at K;split at K
  .rename_i e;subst e;cases K;exact hb
  .rename_i O;exact Y c O x (f.h c x K)
 d c K:=by
  have O:c≠b:=λe=>by subst e;exact K U
  simp only [St.upd,if_neg O];exact f.d c K
theorem OB{P:Program}{α:Type}(x:Sem α):∀{s:St} {w:World} {Q:α->St->Prop} {X:Halt->St->Prop},lp P x s Q X->Fits s w->
  ∃s',Fits s' (LJ (x.run P w))/\Fr s w s' (LJ (x.run P w))/\(∀e∈x.events P w #[],Ev s w (LJ (x.run P w)) e)/\gz Q X s' (x.run P w):=by
 induction x with
 | pure a=>intro s w Q X h f;exact⟨s,f,.refl _ _,by simp [Sem.events_pure'],h⟩
 | load m a k O=>
  intro s w Q X h f;obtain⟨rfl,v,a4,h⟩:=h;obtain⟨o,K,bo⟩:=Option.bind_eq_some_iff.1 a4;have hw:=f.get K;have a5:w.cell? a=some v:=by rw [Tp hw,bo]
  have U:(Sem.load Mode.plain a k).run P w=(k v).run P w:=by simp [Sem.run,a5]
  have Y:(Sem.load Mode.plain a k).events P w #[]= #[⟨.cell a,false,false⟩]++(k v).events P w #[]:=by
   rw [← Sem.events_acc];simp only [Sem.events,Sem.runT,a5];rfl
  rw [U,Y];obtain⟨s',ac,Z,ag,al⟩:=O v h f;refine⟨s',ac,Z,λe he=>?_,al⟩;rcases Array.mem_append.1 he with he | he
  .simp at he;subst he;refine⟨V,Nat.lt_of_lt_of_le (f.lt K) Z.size,?_⟩;by_cases az:s.H a.block=none
   .refine .inr (.inr ⟨?_,V⟩);exact Ux K az
   .exact .inl az
  .exact ag e he
 | store m a v k O=>
  intro s w Q X h f;obtain⟨rfl,a4,o,K,a5,bv,h⟩:=h;have hw:=f.h _ _ K;obtain⟨u,hu⟩:=Option.isSome_iff_exists.1 a5;have bb:w.cell? a=some u:=by rw [Tp hw,hu]
  have be:w.frozen? a=false:=by rw [SU hw,bv]
  have a6:=f.W8 K;obtain⟨a8,a9,f0,rfl⟩:∃c e f,o= .cells c e f:=by cases o <;> simp [cellAt] at hu;exact⟨_,_,_,V⟩
  have bw:(w.setCell a v).heap[a.block]? =some (Lu (.cells a8 a9 f0) a v):=by
   simp [World.setCell,Lu,Array.getElem?_modify,hw]
  have a0:∀c,c≠a.block->(w.setCell a v).heap[c]? =w.heap[c]? :=by
   intro c aq;simp [World.setCell,Array.getElem?_modify,Ne.symm aq]
  have ap:s.E a.block=none:=by
   cases ap:s.E a.block with
   | none=>rfl
   | some x=>have:=f.d a.block (by rw [ap];simp);rw [K] at this;cases this
  have a1:Fits (s.upd a.block (Lu (.cells a8 a9 f0) a v)) (w.setCell a v):=QS f ap bw (λc aq x av=>by rw [a0 c aq];exact av);have U:(Sem.store Mode.plain a v k).run P w=k.run P (w.setCell a v):=by
   cases v <;> first | (simp [C5] at a4;done) | simp [Sem.run,bb,be]
  have Y:(Sem.store Mode.plain a v k).events P w #[]= #[⟨.cell a,true,false⟩]++k.events P (w.setCell a v) #[]:=by
   rw [← Sem.events_acc];cases v <;> first | (simp [C5] at a4;done) | (simp only [Sem.events,Sem.runT,bb,be];rfl)
  have am:Fr s w (s.upd a.block (Lu (.cells a8 a9 f0) a v)) (w.setCell a v):=by
   refine⟨by simp [World.setCell],λb hb aw=>a0 b (λe=>by subst e;rw [K] at aw;cases aw),λb hb=>?_,λ_ _ h=>h,λ_ h=> .inl h,V,V,V⟩;simp only [St.upd] at hb;split at hb
   .rename_i e;subst e;exact .inl (by rw [K];simp)
   .exact .inl hb
  rw [U,Y];obtain⟨s',ac,Z,ag,al⟩:=O h a1;refine⟨s',ac,am.trans Z,λe he=>?_,al⟩;rcases Array.mem_append.1 he with he | he
  .simp at he;subst he;exact⟨V,Nat.lt_of_lt_of_le a6 (am.trans Z).size,.inl (by rw [K];simp)⟩
  .exact(ag e he).M am (Nat.le_refl _)
 | new o k O=>
  intro s w Q X h f;have bi:s.E w.heap.size=none:=by
   cases ap:s.E w.heap.size with
   | none=>rfl
   | some x=>have:=f.e _ _ ap;simp at this
  have bx:s.H w.heap.size=none:=by
   cases ap:s.H w.heap.size with
   | none=>rfl
   | some x=>have:=f.h _ _ ap;simp at this
  have U:(Sem.new o k).run P w=(k w.heap.size).run P {w with heap:=w.heap.push o}:=by simp [Sem.run]
  have Y:(Sem.new o k).events P w #[]=(k w.heap.size).events P {w with heap:=w.heap.push o} #[]:=by simp only [Sem.events,Sem.runT]
  rw [U,Y];have a1:Fits (s.upd w.heap.size o) {w with heap:=w.heap.push o}:=QS f bi (by simp) (λc aq x av=>by
   have:c<w.heap.size:=by
    rcases Nat.lt_or_ge c w.heap.size with a2 | a2
    .exact a2
    .simp [Array.getElem?_eq_none a2] at av
   simp [Array.getElem?_push,Nat.ne_of_lt this,av])
  have am:Fr s w (s.upd w.heap.size o) {w with heap:=w.heap.push o}:=by
   refine⟨by simp,λb hb aw=>by simp [Array.getElem?_push,Nat.ne_of_lt hb],λb hb=>?_,λ_ _ h=>h,λ_ h=> .inl h,V,V,V⟩;simp only [St.upd] at hb;split at hb
   .rename_i e;subst e;exact .inr (Nat.le_refl _)
   .exact .inl hb
  obtain⟨s',ac,Z,ag,al⟩:=O _ (h.2 _ bi bx) a1;exact⟨s',ac,am.trans Z,λe he=>(ag e he).M am (Nat.le_refl _),al⟩
 | shape r k O=>
  intro s w Q X h f;obtain⟨o,K,h⟩:=h;have a3:=XB (f.get K);have U:(Sem.shape r k).run P w=(k (shapeOf o)).run P w:=by simp [Sem.run,a3]
  have Y:(Sem.shape r k).events P w #[]=(k (shapeOf o)).events P w #[]:=by simp only [Sem.events,Sem.runT,a3]
  rw [U,Y];exact O _ h f
 | freeze a n k O=>intro s w Q X h f;exact h.elim
 | frozen a k O=>
  intro s w Q X h f;obtain⟨o,K,h⟩:=h;have a3:=SU (a:=a) (f.get K);have U:(Sem.frozen a k).run P w=(k (frozenAt o a)).run P w:=by simp [Sem.run,a3]
  have Y:(Sem.frozen a k).events P w #[]=(k (frozenAt o a)).events P w #[]:=by simp only [Sem.events,Sem.runT,a3]
  rw [U,Y];exact O _ h f
 | getObj r k O=>
  intro s w Q X h f;obtain⟨o,K,a7,h⟩:=h;have hw:=f.get K;have U:(Sem.getObj r k).run P w=(k o).run P w:=by cases o <;> simp [Ku] at a7 <;> simp [Sem.run,hw]
  have Y:(Sem.getObj r k).events P w #[]= #[⟨.obj r,false,false⟩]++(k o).events P w #[]:=by
   rw [← Sem.events_acc];cases o <;> simp [Ku] at a7 <;> (simp only [Sem.events,Sem.runT,hw,Obj.isChan];rfl)
  rw [U,Y];obtain⟨s',ac,Z,ag,al⟩:=O o h f;refine⟨s',ac,Z,λe he=>?_,al⟩;rcases Array.mem_append.1 he with he | he
  .simp at he;subst he;refine⟨V,Nat.lt_of_lt_of_le (f.lt K) Z.size,?_⟩;by_cases az:s.H r=none
   .refine .inr (.inr ⟨?_,V⟩);exact Ux K az
   .exact .inl az
  .exact ag e he
 | setObj r o k O=>
  intro s w Q X h f;obtain⟨⟨o₀,K,bn⟩,a7,h⟩:=h;have hw:=f.h _ _ K;have a6:=f.W8 K;have ap:s.E r=none:=by
   cases ap:s.E r with
   | none=>rfl
   | some x=>have:=f.d r (by rw [ap];simp);rw [K] at this;cases this
  have U:(Sem.setObj r o k).run P w=k.run P {w with heap:=w.heap.setIfInBounds r o}:=by
   cases o₀ <;> simp [Ku] at bn <;> simp [Sem.run,hw]
  have Y:(Sem.setObj r o k).events P w #[]= #[⟨.obj r,true,false⟩]++k.events P {w with heap:=w.heap.setIfInBounds r o} #[]:=by
   rw [← Sem.events_acc];cases o₀ <;> simp [Ku] at bn <;> cases o <;> simp [Ku] at a7 <;> (simp only [Sem.events,Sem.runT,hw,Obj.isChan];rfl)
  have a0:∀c,c≠r->(w.heap.setIfInBounds r o)[c]? =w.heap[c]? :=λc aq=>by simp [Ne.symm aq]
  have a1:Fits (s.upd r o) {w with heap:=w.heap.setIfInBounds r o}:=QS f ap (by simp [a6]) (λc aq x av=>by show(w.heap.setIfInBounds r o)[c]? =_;rw [a0 c aq];exact av);have am:Fr s w (s.upd r o) {w with heap:=w.heap.setIfInBounds r o}:=by
   refine⟨by simp,λb hb aw=>a0 b (λe=>by subst e;rw [K] at aw;cases aw),λb hb=>?_,λ_ _ h=>h,λ_ h=> .inl h,V,V,V⟩;simp only [St.upd] at hb;split at hb
   .rename_i e;subst e;exact .inl (by rw [K];simp)
   .exact .inl hb
  rw [U,Y];obtain⟨s',ac,Z,ag,al⟩:=O h a1;refine⟨s',ac,am.trans Z,λe he=>?_,al⟩;rcases Array.mem_append.1 he with he | he
  .simp at he;subst he;exact⟨V,Nat.lt_of_lt_of_le a6 (am.trans Z).size,.inl (by rw [K];simp)⟩
  .exact(ag e he).M am (Nat.le_refl _)
 | choose q k O=>
  intro s w Q X h f;simp only [lp] at h;by_cases ay:q.forced
  .rw [if_pos ay] at h;have U:(Sem.choose q k).run P w=(k 0).run P w:=by simp [Sem.run,ay]
   have Y:(Sem.choose q k).events P w #[]=(k 0).events P w #[]:=by simp only [Sem.events,Sem.runT];rw [if_pos ay]
   rw [U,Y];exact O _ h f
  .rw [if_neg ay] at h;have U:(Sem.choose q k).run P w=(k (q.cut (w.tape w.drawn q))).run P {w with drawn:=w.drawn+1}:=by simp [Sem.run,ay]
   have Y:(Sem.choose q k).events P w #[]=(k (q.cut (w.tape w.drawn q))).events P {w with drawn:=w.drawn+1} #[]:=by simp only [Sem.events,Sem.runT];rw [if_neg ay]
   rw [U,Y];have am:Fr s w s {w with drawn:=w.drawn+1}:=⟨Nat.le_refl _,λ_ _ _=>rfl,λ_ h=> .inl h,λ_ _ h=>h,λ_ h=> .inl h,rfl,rfl,rfl⟩;obtain⟨s',ac,Z,ag,al⟩:=O _ (h.2 (w.tape w.drawn q)) (⟨f.e,f.h,f.d⟩:Fits s {w with drawn:=w.drawn+1});exact⟨s',ac,am.trans Z,λe he=>(ag e he).M am (Nat.le_refl _),al⟩
 | sys c k O=>intro s w Q X h f;exact h.elim
 | program k O=>
  intro s w Q X h f;have U:(Sem.program k).run P w=(k P).run P w:=by simp [Sem.run]
  have Y:(Sem.program k).events P w #[]=(k P).events P w #[]:=by simp only [Sem.events,Sem.runT]
  rw [U,Y];exact O _ h f
 | mark m k O=>
  intro s w Q X h f;have U:(Sem.mark m k).run P w=k.run P w:=by simp [Sem.run]
  have Y:(Sem.mark m k).events P w #[]= #[⟨.mark m,false,true⟩]++k.events P w #[]:=by
   rw [← Sem.events_acc];simp only [Sem.events,Sem.runT];rfl
  rw [U,Y];obtain⟨hm,h⟩:=h;obtain⟨s',ac,Z,ag,al⟩:=O h f;refine⟨s',ac,Z,λe he=>?_,al⟩;rcases Array.mem_append.1 he with he | he
  .simp at he;subst he;rcases hm with⟨_,rfl⟩ | ⟨g,rfl⟩ <;> trivial
  .exact ag e he
 | halt h=>intro s w Q X a2 f;exact⟨s,f,.refl _ _,by simp [Sem.events_halt],a2⟩
theorem S2{P:Program}{fn:FuncId}{es:Array Event}(h:∀e∈es,∃f,e.loc= .mark (.extern f)):seen P fn es= #[]:=by
 rw [seen_def];have:∀(l:List Event) (q:Bool),(∀e∈l,∃f,e.loc= .mark (.extern f))->(l.foldl (seenStep λf=>(P.funcs[f]?).any (·.norace)) (q,#[])).2= #[]:=by
  intro l
  induction l with
  | nil=>intro q _;rfl
  | cons e l K=>
   intro q h;obtain⟨f,O⟩:=h e (by simp);rw [List.foldl_cons];have:seenStep (λf=>(P.funcs[f]?).any (·.norace)) (q,#[]) e=((P.funcs[f]?).any (·.norace),#[]):=by simp [seenStep,O]
   rw [this];exact K _ λx U=>h x (by simp [U])
 exact this es.toList _ λe he=>h e (Array.mem_toList_iff.1 he)
def St.quiet:St:=⟨λ_=>none,λ_=>none,true⟩
theorem Uq{P:Program}{α:Type}(x:Sem α):∀{Q:α->St->Prop} {X:Halt->St->Prop},lp P x .quiet Q X->
  ∃es,(∀w,x.events P w #[]=es)/\(∀e∈es,∃f,e.loc= .mark (.extern f))/\((∃a,Q a .quiet/\(∀w,x.run P w= .ok a w))∨(∃a,X a .quiet/\(∀w,x.run P w= .halt a w))):=by
 induction x with
 | pure a=>intro Q X h;exact⟨#[],λw=>by simp [Sem.events_pure'],by simp,.inl ⟨a,h,λw=>rfl⟩⟩
 | load m a k K=>intro Q X h;obtain⟨_,v,Z,_⟩:=h;simp [St.cell?,St.get,St.quiet] at Z
 | store m a v k K=>intro Q X h;obtain⟨_,_,o,ac,_⟩:=h;cases ac
 | new o k K=>intro Q X h;cases h.1
 | shape r k K=>intro Q X h;obtain⟨o,O,_⟩:=h;simp [St.get,St.quiet] at O
 | freeze a n k K=>intro Q X h;exact h.elim
 | frozen a k K=>intro Q X h;obtain⟨o,O,_⟩:=h;simp [St.get,St.quiet] at O
 | getObj r k K=>intro Q X h;obtain⟨o,O,_⟩:=h;simp [St.get,St.quiet] at O
 | setObj r o k K=>intro Q X h;obtain⟨⟨o,O,_⟩,_⟩:=h;cases O
 | choose q k K=>
  intro Q X h;simp only [lp] at h;by_cases U:q.forced
  .rw [if_pos U] at h;have Y:∀w,(Sem.choose q k).run P w=(k 0).run P w:=λw=>by simp [Sem.run,U]
   have e2:∀w,(Sem.choose q k).events P w #[]=(k 0).events P w #[]:=λw=>by simp only [Sem.events,Sem.runT];rw [if_pos U]
   simpa only [Y,e2] using K _ h
  .rw [if_neg U] at h;cases h.1
 | sys c k K=>intro Q X h;exact h.elim
 | program k K=>
  intro Q X h;have Y:∀w,(Sem.program k).run P w=(k P).run P w:=λw=>by simp [Sem.run]
  have e2:∀w,(Sem.program k).events P w #[]=(k P).events P w #[]:=λw=>by simp only [Sem.events,Sem.runT]
  simpa only [Y,e2] using K _ h
 | mark m k K=>
  intro Q X h;obtain⟨hm,h⟩:=h;obtain⟨es,O,Z,ac⟩:=K h;have Y:∀w,(Sem.mark m k).run P w=k.run P w:=λw=>by simp [Sem.run]
  have e2:∀w,(Sem.mark m k).events P w #[]= #[⟨.mark m,false,true⟩]++k.events P w #[]:=λw=>by rw [← Sem.events_acc];simp only [Sem.events,Sem.runT];rfl
  refine⟨#[⟨.mark m,false,true⟩]++es,λw=>by rw [e2,O],λe he=>?_,by simpa only [Y] using ac⟩;rcases Array.mem_append.1 he with he | he
  .simp at he;subst he;rcases hm with⟨U,_⟩ | hm
   .cases U
   .obtain⟨f,rfl⟩:=hm;exact⟨f,V⟩
  .exact Z e he
 | halt h=>intro Q X ag;exact⟨#[],λw=>by simp [Sem.events_halt],by simp,.inr ⟨h,ag,λw=>rfl⟩⟩
def We(P:Program)(main:Bool)(g:Goroutine)(s:St)(K:Gs_):Prop:=
 g.status= .running/\(∀w,Fits s w->
  ∃g' s' w' es,stepG P main g w= .go g' w' es/\K g' s'/\Fits s' w'/\Fr s w s' w'/\(∀e∈es,Ev s w w' e))/\
  (s= .quiet->∃g',(∀w,stepG P main g w= .go g' w #[])/\K g' .quiet)
structure Cs (s s₀:St):Prop where
 ext:∀b o,s.E b=some o->s₀.E b=some o
 own:∀b o,s₀.H b=some o->s.H b=some o
 Fc:∀b o,s₀.E b=some o->s.E b=some o∨(s.H b=some o/\s₀.H b=none)
 q:s₀.q=s.q
theorem Cs.refl(s:St):Cs s s:=⟨λ_ _ h=>h,λ_ _ h=>h,λ_ _ h=> .inl h,V⟩
theorem Cs.fits{s s₀:St}(g:Cs s s₀){w:World}(f:Fits s w):Fits s₀ w where
 e b o h:=by
  rcases g.Fc b o h with x | x
  .exact f.e _ _ x
  .exact f.h _ _ x.1
 h b o h:=f.h _ _ (g.own _ _ h)
 d b h:=by
  cases K:s₀.E b with
  | none=>exact absurd K h
  | some o=>
   rcases g.Fc b o K with x | x
   .cases O:s₀.H b with
    | none=>rfl
    | some y=>have:=g.own _ _ O;rw [f.d b (by rw [x];simp)] at this;cases this
   .exact x.2
theorem IH{α:Type}{x:Option α}(h:x≠none):∃a,x=some a:=by cases x <;> simp at h;exact⟨_,rfl⟩
theorem Cs.fr{s s₀ s':St}{w w':World}(g:Cs s s₀)(f:Fr s₀ w s' w'):Fr s w s' w' where
 size:=f.size
 keep b hb O:=f.keep b hb (by
  cases h:s₀.H b with
  | none=>rfl
  | some o=>rw [g.own _ _ h] at O;cases O)
 own b hb:=(f.own b hb).imp (λh=>by obtain⟨o,K⟩:=IH h;rw [g.own _ _ K];simp) id
 ext b o h:=f.ext _ _ (g.ext _ _ h)
 Fc b hb:=by
  rcases f.Fc b hb with h | h | h
  .obtain⟨o,K⟩:=IH h;rcases g.Fc _ _ K with x | x
   .exact .inl (by rw [x];simp)
   .exact .inr (.inl (by rw [x.1];simp))
  .obtain⟨o,K⟩:=IH h;exact .inr (.inl (by rw [g.own _ _ K];simp))
  .exact .inr (.inr h)
 tape:=f.tape
 os:=f.os
 output:=f.output
theorem Cs.He{s s₀:St}{w w':World}{b:Nat}{wr:Bool}(g:Cs s s₀)(t:He s₀ w w' b wr):He s w w' b wr:=by
 refine⟨t.1,?_⟩;rcases t.2 with h | h | ⟨h,hw⟩
 .obtain⟨o,K⟩:=IH h;exact .inl (by rw [g.own _ _ K];simp)
 .exact .inr (.inl h)
 .obtain⟨o,K⟩:=IH h;rcases g.Fc _ _ K with x | x
  .exact .inr (.inr ⟨by rw [x];simp,hw⟩)
  .exact .inl (by rw [x.1];simp)
theorem Cs.ev{s s₀:St}{w w':World}{e:Event}(g:Cs s s₀)(t:Ev s₀ w w' e):Ev s w w' e:=by
 unfold Ev at t ⊢;split <;> rename_i he <;> simp only [he] at t
 .exact⟨t.1,g.He t.2⟩
 .exact⟨t.1,g.He t.2⟩
 .trivial
 .trivial
theorem Cs.quiet{s₀:St}(g:Cs .quiet s₀):s₀= .quiet:=by
 obtain⟨E,H,q⟩:=s₀;have K:E=λ_=>none:=by
  funext b;cases h:E b with
  | none=>rfl
  | some o=>rcases g.Fc b o h with x | ⟨x,_⟩ <;> cases x
 have O:H=λ_=>none:=by
  funext b;cases h:H b with
  | none=>rfl
  | some o=>cases g.own b o h
 have U:q=true:=g.q;subst K O U;rfl
inductive Rk:Type where
 | leaf:Rk
 | node (f:World->Rk):Rk
def Rk.sub(a b:Rk):Prop:=∃f w,b= .node f/\a=f w
theorem Rk.wf:WellFounded Rk.sub:=⟨λr=>by
 induction r with
 | leaf=>exact⟨_,λa ⟨f,w,h,_⟩=>by cases h⟩
 | node f K=>exact⟨_,λa ⟨g,w,h,e⟩=>by cases h;subst e;exact K w⟩⟩
def Jr(P:Program)(main:Bool)(Q:Gs_):Rk->Gs_
 | .leaf,g,s=>Q g s
 | .node f,g,s=>Q g s∨(g.status= .running/\∀w,Fits s w->
  ∃g' s' w' es,stepG P main g w= .go g' w' es/\Jr P main Q (f w) g' s'/\Fits s' w'/\Fr s w s' w'/\(∀e∈es,Ev s w w' e)/\(s= .quiet->s'= .quiet/\w'=w/\es= #[]))
structure Judge (P:Program) where
 main:Bool
 ok:(Gs_)->Gs_
 stop:∀{Q g s},Q g s->ok Q g s
 step:∀{Q g s},We P main g s (ok Q)->ok Q g s
 trans:∀{Q R g s},ok Q g s->(∀g' s',Q g' s'->ok R g' s')->ok R g s
 ghost:∀{Q g s s₀},Cs s s₀->ok Q g s₀->ok Q g s
def JQ(Q:Gs_)(g:Goroutine)(s:St):Prop:=∃s₀,Cs s s₀/\Q g s₀
theorem Cs.trans{a b c:St}(h:Cs a b)(k:Cs b c):Cs a c where
 ext x o y:=k.ext _ _ (h.ext _ _ y)
 own x o y:=h.own _ _ (k.own _ _ y)
 Fc x o y:=by
  rcases k.Fc x o y with z | z
  .rcases h.Fc x o z with u | u
   .exact .inl u
   .refine .inr ⟨u.1,?_⟩;cases K:c.H x with
    | none=>rfl
    | some v=>have:=k.own _ _ K;rw [u.2] at this;cases this
  .exact .inr ⟨h.own _ _ z.1,z.2⟩
 q:=k.q.trans h.q
def A4(P:Program)(main:Bool):Judge P where
 main:=main
 ok Q g s:=∃r,Jr P main (JQ Q) r g s
 stop h:=⟨.leaf,_,.refl _,h⟩
 step {Q g s} h:=by
  obtain⟨U,h,hu⟩:=h;have al:∀w,∃r:Rk,Fits s w->∃g' s' w' es,stepG P main g w= .go g' w' es/\Jr P main (JQ Q) r g' s'/\Fits s' w'/\Fr s w s' w'/\(∀e∈es,Ev s w w' e)/\(s= .quiet->s'= .quiet/\w'=w/\es= #[]):=by
   intro w;by_cases f:Fits s w
   .by_cases e:s= .quiet
    .obtain⟨g',K,r,O⟩:=hu e;exact⟨r,λ_=>⟨g',.quiet,w,#[],K w,O,e▸f,e▸ .refl _ _,by simp,λ_=>⟨V,V,V⟩⟩⟩
    .obtain⟨g',s',w',es,K,⟨r,O⟩,ac,am,ap⟩:=h w f;exact⟨r,λ_=>⟨g',s',w',es,K,O,ac,am,ap,λx=>absurd x e⟩⟩
   .exact⟨.leaf,λx=>absurd x f⟩
  exact⟨.node λw=>Classical.choose (al w),.inr ⟨U,λw f=>Classical.choose_spec (al w) f⟩⟩
 trans {Q R g s} h k:=by
  obtain⟨r,h⟩:=h;have av:∀(r:Rk) {g:Goroutine} {s s₀:St},Cs s s₀->Jr P main (JQ R) r g s₀->Jr P main (JQ R) r g s:=by
   intro r g s s₀ Y Z;cases r with
   | leaf=>obtain⟨ag,K,O⟩:=Z;exact⟨ag,Y.trans K,O⟩
   | node f=>
    rcases Z with⟨ag,K,O⟩ | ⟨U,Z⟩
    .exact .inl ⟨ag,Y.trans K,O⟩
    .exact .inr ⟨U,λw f=>let ⟨g',s',w',es,K,O,ac,am,ap,aq⟩:=Z w (Y.fits f);⟨g',s',w',es,K,O,ac,Y.fr am,λe he=>Y.ev (ap e he),λe=>aq (by subst e;exact Y.quiet)⟩⟩
  induction r generalizing g s with
  | leaf=>
   obtain⟨s₀,K,O⟩:=h;obtain⟨r,U⟩:=k _ _ O;exact⟨r,av r K U⟩
  | node f ay=>
   rcases h with⟨s₀,K,O⟩ | ⟨U,h⟩
   .obtain⟨r,U⟩:=k _ _ O;exact⟨r,av r K U⟩
   .have al:∀w,∃r:Rk,Fits s w->∃g' s' w' es,stepG P main g w= .go g' w' es/\Jr P main (JQ R) r g' s'/\Fits s' w'/\Fr s w s' w'/\(∀e∈es,Ev s w w' e)/\(s= .quiet->s'= .quiet/\w'=w/\es= #[]):=by
     intro w;by_cases aw:Fits s w
     .obtain⟨g',s',w',es,K,O,ac⟩:=h w aw;obtain⟨r,U⟩:=ay w O;exact⟨r,λ_=>⟨g',s',w',es,K,U,ac⟩⟩
     .exact⟨.leaf,λx=>absurd x aw⟩
    exact⟨.node λw=>Classical.choose (al w),.inr ⟨U,λw f=>Classical.choose_spec (al w) f⟩⟩
 ghost {Q g s s₀} Y h:=by
  obtain⟨r,Z⟩:=h;refine⟨r,?_⟩;cases r with
  | leaf=>obtain⟨ag,K,O⟩:=Z;exact⟨ag,Y.trans K,O⟩
  | node f=>
   rcases Z with⟨ag,K,O⟩ | ⟨U,Z⟩
   .exact .inl ⟨ag,Y.trans K,O⟩
   .exact .inr ⟨U,λw f=>let ⟨g',s',w',es,K,O,ac,am,ap,aq⟩:=Z w (Y.fits f);⟨g',s',w',es,K,O,ac,Y.fr am,λe he=>Y.ev (ap e he),λe=>aq (by subst e;exact Y.quiet)⟩⟩
def Lv(P:Program)(Q:Gs_):Nat->Goroutine->Prop
 | 0,g=>Q g .quiet
 | n+1,g=>Q g .quiet∨(g.status= .running/\∃g',(∀w,stepG P false g w= .go g' w #[])/\Lv P Q n g')
def IL(P:Program):Judge P where
 main:=false
 ok Q g s:=s= .quiet->∃n,Lv P Q n g
 stop h e:=⟨0,by subst e;exact h⟩
 step {Q g s} h e:=by
  obtain⟨g',K,O⟩:=h.2.2 e;obtain⟨n,U⟩:=O V;exact⟨n+1,.inr ⟨h.1,g',K,U⟩⟩
 trans {Q R g s} h k e:=by
  obtain⟨n,U⟩:=h e;have:∀n g,Lv P Q n g->∃m,Lv P R m g:=by
   intro n
   induction n with
   | zero=>intro g h;exact k _ _ h rfl
   | succ n Y=>
    intro g h;rcases h with h | ⟨Z,g',K,O⟩
    .exact k _ _ h V
    .obtain⟨m,hm⟩:=Y g' O;exact⟨m+1,.inr ⟨Z,g',K,hm⟩⟩
  exact this n g U
 ghost {Q g s s₀} ac h e:=by subst e;exact h ac.quiet
def fr(b:Frame)(T:Av_)(ds:Ld_)(todo:Li_):Frame:={b with tmps:=T,todo:=todo,defers:=ds,mode:= .run}
def EJ(b:Frame)(T:Av_)(ds:Ld_)(todo:Li_):Frame:={b with tmps:=T,todo:=todo,defers:=ds,mode:= .returning}
def BJ(T:Av_):Operand->Value
 | .tmp t=>T.getD t undef
 | .const v=>v
 | .global g=> .pointer (some ⟨g,0,none⟩)
 | .func f=> .func (.func f) #[] #[]
abbrev Env:=List (Nat×Value)
def look:Env->Nat->Option Value
 | [],_=>none
 | (t,v)::L,u=>if t=u then some v else look L u
def ev(L:Env):Operand->Option Value
 | .tmp t=>look L t
 | .const v=>some v
 | .global g=>some (.pointer (some ⟨g,0,none⟩))
 | .func f=>some (.func (.func f) #[] #[])
structure Has (n:Nat) (L:Env) (T:Av_):Prop where
 size:T.size=n
 at_:∀t v,look L t=some v->T.getD t undef=v
theorem Has.ev{n:Nat}{L:Env}{T:Av_}(h:Has n L T){x:Operand}{v:Value}(e:ev L x=some v):BJ T x=v:=by
 cases x with
 | tmp t=>exact h.at_ t v e
 | const u=>cases e;rfl
 | global g=>cases e;rfl
 | func f=>cases e;rfl
def CU(T:Av_):Option Tmp->Value->Av_
 | some d,v=>T.setIfInBounds d v
 | none,_=>T
def AB(L:Env):Option Tmp->Value->Env
 | some d,v=>(d,v)::L
 | none,_=>L
def Bu(n:Nat):Option Tmp->Bool
 | some d=>d<n
 | none=>true
theorem ZP(T:Av_)(d:Nat)(v:Value)(h:d<T.size)(t:Nat):(T.setIfInBounds d v).getD t undef=if d=t then v else T.getD t undef:=by
 by_cases e:d=t
 .subst e;simp [Array.getD_eq_getD_getElem?,h]
 .simp [Array.getD_eq_getD_getElem?,e]
theorem Has.put{n:Nat}{L:Env}{T:Av_}(h:Has n L T){d:Option Tmp}(hd:Bu n d=true)(v:Value):Has n (AB L d v) (CU T d v):=by
 cases d with
 | none=>exact h
 | some d=>
  have K:d<T.size:=by rw [h.size];simpa [Bu] using hd
  refine⟨by simp [CU,h.size],λt u hu=>?_⟩;simp only [CU,ZP T d v K];simp only [AB,look] at hu;split at hu
  .rename_i e;rw [if_pos e];exact Option.some.inj hu
  .rename_i e;rw [if_neg e];exact h.at_ t u hu
def Sub:Env->Env->Prop
 | [],_=>True
 | (t,v)::L',L=>look L t=some v/\Sub L' L
theorem Sub.look{L:Env}:∀{L':Env},Sub L' L->∀t v,look L' t=some v->Pal.look L t=some v
 | [],_,t,v,e=>by simp [Pal.look] at e
 | (u,w)::L',h,t,v,e=>by
  simp only [Pal.look] at e
  split at e
  .rename_i K;subst K;cases e;exact h.1
  .exact Sub.look h.2 t v e
theorem Has.sub{n:Nat}{L L':Env}{T:Av_}(h:Has n L T)(s:Sub L' L):Has n L' T:=⟨h.size,λt v e=>h.at_ t v (s.look t v e)⟩
variable {P:Program}
section
variable (J:Judge P)(Q:Gs_)
def JL(b:Frame)(n:Nat)(L:Env)(ds:Ld_)(todo:Li_)(cs:Lf_)(s:St):Prop:=
 ∀T,Has n L T->J.ok Q (G (fr b T ds todo) cs) s
end
variable {J:Judge P}{Q:Gs_}{L L':Env}{ds:Ld_}{k:Li_}{cs:Lf_}{s s':St}
section
variable {b:Frame}{n:Nat}
theorem Judge.Dz{g g':Goroutine}(K:g.status= .running)(h:∀w,stepG P J.main g w= .go g' w)(k:J.ok Q g' s):J.ok Q g s:=
 J.step ⟨K,λw f=>⟨g',s,w,#[],h w,k,f,.refl _ _,by simp⟩,λe=>⟨g',h,e▸k⟩⟩
theorem EH(h:Sub L' L)(k':JL J Q b n L' ds k cs s):JL J Q b n L ds k cs s:=λT K=>k' T (K.sub h)
theorem JL.ghost(h:Cs s s')(k':JL J Q b n L ds k cs s'):JL J Q b n L ds k cs s:=λT K=>J.ghost h (k' T K)
theorem JL.skip(h:JL J Q b n L ds k cs s):JL J Q b n L ds (.code .skip::k) cs s:=λT K=>Judge.Dz V (λw=>by simp [G,stepG,stepG.exec,fr]) (h T K)
theorem JL.label{l:Nat}(h:JL J Q b n L ds k cs s):JL J Q b n L ds (.code (.label l)::k) cs s:=λT K=>Judge.Dz V (λw=>by simp [G,stepG,stepG.exec,fr]) (h T K)
theorem Of{i:Nat}(h:JL J Q b n L ds k cs s):JL J Q b n L ds (.inBlock i::k) cs s:=λT K=>Judge.Dz V (λw=>by simp [G,stepG,stepG.exec,fr]) (h T K)
theorem XL{c:Code}(h:JL J Q b n L ds k cs s):JL J Q b n L ds (.inScope c::k) cs s:=λT K=>Judge.Dz V (λw=>by simp [G,stepG,stepG.exec,fr]) (h T K)
theorem JL.seq{x y:Code}(h:JL J Q b n L ds (.code x:: .code y::k) cs s):JL J Q b n L ds (.code (.seq x y)::k) cs s:=λT K=>Judge.Dz V (λw=>by simp [G,stepG,stepG.exec,fr]) (h T K)
theorem JL.block{i:Nat}{c:Code}(h:JL J Q b n L ds (.code c:: .inBlock i::k) cs s):JL J Q b n L ds (.code (.block i c)::k) cs s:=λT K=>Judge.Dz V (λw=>by simp [G,stepG,stepG.exec,fr]) (h T K)
theorem JL.scope{c:Code}(h:JL J Q b n L ds (.code c:: .inScope c::k) cs s):JL J Q b n L ds (.code (.scope c)::k) cs s:=λT K=>Judge.Dz V (λw=>by simp [G,stepG,stepG.exec,fr]) (h T K)
theorem II{c:Code}(h:JL J Q b n L ds (.code c:: .inLoop c::k) cs s):JL J Q b n L ds (.code (.loop c)::k) cs s:=λT K=>Judge.Dz V (λw=>by simp [G,stepG,stepG.exec,fr]) (h T K)
theorem JL.again{c:Code}(h:JL J Q b n L ds (.code c:: .inLoop c::k) cs s):JL J Q b n L ds (.inLoop c::k) cs s:=λT K=>Judge.Dz V (λw=>by simp [G,stepG,stepG.exec,fr]) (h T K)
theorem JL.exit{i:Nat}{k':Li_}(K:exitTo i k=some k')(h:JL J Q b n L ds k' cs s):JL J Q b n L ds (.code (.exit i)::k) cs s:=λT O=>Judge.Dz V (λw=>by simp [G,stepG,stepG.exec,fr,K]) (h T O)
theorem Va(T:Av_)(todo:Li_)(x:Operand):(fr b T ds todo).eval x=BJ T x:=by cases x <;> rfl
theorem T3(T:Av_)(todo:Li_):(fr b T ds todo).eval=BJ T:=funext (Va T todo)
theorem JL.cond{c:Operand}{x y:Code}{t:Bool}(U:ev L c=some (.bool t))(h:JL J Q b n L ds (.code (if t then x else y)::k) cs s):JL J Q b n L ds (.code (.cond c x y)::k) cs s:=λT O=>
 Judge.Dz V (λw=>by
  have K:=Va (b:=b) (ds:=ds) T (.code (.cond c x y)::k) c
  rw [O.ev U] at K
  simp only [fr] at K
  simp [G,stepG,stepG.exec,fr,K]) (h T O)
theorem YZ{c:Operand}{x y:Code}(K:ev L c=some (.bool true))(h:JL J Q b n L ds (.code x::k) cs s):JL J Q b n L ds (.code (.cond c x y)::k) cs s:=JL.cond K h
theorem Zq{c:Operand}{x y:Code}(K:ev L c=some (.bool false))(h:JL J Q b n L ds (.code y::k) cs s):JL J Q b n L ds (.code (.cond c x y)::k) cs s:=JL.cond K h
theorem QX{c:Operand}{x y:Code}{t:Bool}(K:ev L c=some (.bool t))(O:t=true->JL J Q b n L ds (.code x::k) cs s)(U:t=false->JL J Q b n L ds (.code y::k) cs s):JL J Q b n L ds (.code (.cond c x y)::k) cs s:=by
 cases t
 .exact JL.cond K (U V)
 .exact JL.cond K (O V)
theorem GA{c:Operand}{x y:Code}{p:Prop} [Decidable p] (K:ev L c=some (.bool (decide p)))(O:p->JL J Q b n L ds (.code x::k) cs s)(U:¬p->JL J Q b n L ds (.code y::k) cs s):JL J Q b n L ds (.code (.cond c x y)::k) cs s:=
 QX K (λh=>O (of_decide_eq_true h)) (λh=>U (of_decide_eq_false h))
theorem JL.loop{α:Type}{c:Code}(I:α->Prop)(O:α->Nat)(U:α->Env)(Y:α->St)(Z:α)(ac:I Z)(ag:L=U Z)(al:s=Y Z)
  (round:∀a,I a->(∀K,I K->O K<O a->JL J Q b n (U K) ds (.inLoop c::k) cs (Y K))->JL J Q b n (U a) ds (.code c:: .inLoop c::k) cs (Y a)):
  JL J Q b n L ds (.code (.loop c)::k) cs s:=by
 refine II ?_;subst ag al;have key:∀m a,O a=m->I a->JL J Q b n (U a) ds (.code c:: .inLoop c::k) cs (Y a):=by
  intro m
  induction m using Nat.strongRecOn with
  | _ m am=>intro a hm ap;exact round a ap λK aq av=>JL.again (am (O K) (hm▸av) K rfl aq)
 exact key _ Z V ac
theorem JL.region{id:Nat}{ops:Ao_}(h:JL J Q b n L ds (.inRegion ops (List.range ops.size)::k) cs s):JL J Q b n L ds (.code (.region id ops false)::k) cs s:=λT K=>Judge.Dz V (λw=>by simp [G,stepG,stepG.exec,fr]) (h T K)
theorem JL.done{ops:Ao_}(h:JL J Q b n L ds k cs s):JL J Q b n L ds (.inRegion ops []::k) cs s:=λT K=>Judge.Dz V (λw=>by simp [G,stepG,stepG.exec,fr]) (h T K)
theorem UX{id:Nat}{ops:Ao_}(K:s.q=false)(hm:P.follows .mixedOrders=true)(h:∀t,JL J Q b n L ds (.inRegion ops (Region.linearise .any ops t)::k) cs s):JL J Q b n L ds (.code (.region id ops true)::k) cs s:=λT O=>by
 refine J.step ⟨rfl,λw f=>⟨_,s,{w with drawn:=w.drawn+1},#[],?_,h (w.tape w.drawn (.order b.fn id)) T O,⟨f.e,f.h,f.d⟩,⟨Nat.le_refl _,λ_ _ _=>rfl,λ_ h=> .inl h,λ_ _ h=>h,λ_ h=> .inl h,rfl,rfl,rfl⟩,by simp⟩,λe=>by subst e;cases K⟩
 simp [G,stepG,stepG.exec,fr,choose,Sem.run,Question.forced,Question.cut,Region.schedule,hm]
theorem GW(T:Av_)(ops:Ao_)(i:Nat)(rest:List Nat)(v:Value)(o:Oper)(K:ops[i]? =some o):
  (fr b T ds (.inRegion ops (i::rest)::k)).finish v=fr b (CU T o.dst v) ds (.inRegion ops rest::k):=by
 cases hd:o.dst <;> simp [Frame.finish,fr,K,hd,CU]
theorem stepG_op{main:Bool}{T:Av_}{ops:Ao_}{i:Nat}{rest:List Nat}{o:Oper}{w:World}(K:ops[i]? =some o)(hw:Region.wanted o (yielded ops T)=true):
  stepG P main (G (fr b T ds (.inRegion ops (i::rest)::k)) cs) w=
   match b.roundOf,o.op with
   | some l,.defer c=>stepG.apply P true (fr b T ds (.inRegion ops (i::rest)::k)) cs none (do Instr.deferInRound l (← resolve (BJ T) c o.type);pure .skip) w
   | _,_=>stepG.apply P true (fr b T ds (.inRegion ops (i::rest)::k)) cs none (execOp (BJ T) o) w:=by
 have he:=T3 (b:=b) (ds:=ds) T (.inRegion ops (i::rest)::k);simp only [fr] at he;simp only [G,stepG,stepG.exec,fr,K,Option.map_some,Option.getD_some,hw,if_true,stepG.oper,Frame.oper?,he]
 rfl
theorem Gk(T:Av_)(todo:Li_):(fr b T ds todo).fn=b.fn:=rfl
theorem IQ(T:Av_)(todo:Li_):(fr b T ds todo).todo=todo:=rfl
def upon(J:Judge P)(Q:Gs_)(b:Frame)(T:Av_)(ds:Ld_)(ops:Ao_)(i:Nat)(rest:List Nat)(k:Li_)(cs:Lf_)(dst:Option Tmp):Next->St->Prop
 | .value v,s=>J.ok Q (G (fr b (CU T dst v) ds (.inRegion ops rest::k)) cs) s
 | .skip,s=>J.ok Q (G (fr b (CU T dst undef) ds (.inRegion ops rest::k)) cs) s
 | .defer d,s=>J.ok Q (G (fr b (CU T dst undef) (d::ds) (.inRegion ops rest::k)) cs) s
 | .enter f args,s=>J.ok Q (G (Frame.enter P f args .normal) (fr b T ds (.inRegion ops (i::rest)::k)::cs)) s
 | .round l f tmps assign body,s=>J.ok Q (G (Frame.round l f tmps assign body .normal) (fr b T ds (.inRegion ops (i::rest)::k)::cs)) s
 | _,_=>False
def Mo(J:Judge P)(Q:Gs_)(b:Frame)(T:Av_)(ds:Ld_)(ops:Ao_)(i:Nat)(rest:List Nat)(k:Li_)(cs:Lf_):Halt->St->Prop
 | .panic v,s=>J.ok Q (G ((fr b T ds (.inRegion ops (i::rest)::k)).raise [{v,recovered:=false}]) cs) s
 | _,_=>False
theorem Ri{s:St}{w w':World}{fn:FuncId}{es:Array Event}(h:∀e∈es,Ev s w w' e):∀e∈seen P fn es,Ev s w w' e:=λe he=>h e (mem_seen he)
theorem Judge.oper{T:Av_}{ops:Ao_}{i:Nat}{rest:List Nat}{o:Oper}(al:ops[i]? =some o)(hw:Region.wanted o (yielded ops T)=true)(ay:b.kind≠ .early)
  (hd:b.roundOf=none∨∀c,o.op≠ .defer c)
  (h:lp P (execOp (BJ T) o) s (upon J Q b T ds ops i rest k cs o.dst) (Mo J Q b T ds ops i rest k cs)):
  J.ok Q (G (fr b T ds (.inRegion ops (i::rest)::k)) cs) s:=by
 have U:((fr b T ds (.inRegion ops (i::rest)::k)).kind==CallKind.early)=false:=by simpa [fr] using ay
 have av:∀w,stepG P J.main (G (fr b T ds (.inRegion ops (i::rest)::k)) cs) w=stepG.apply P true (fr b T ds (.inRegion ops (i::rest)::k)) cs none (execOp (BJ T) o) w:=by
  intro w;rw [stepG_op al hw];split
  .rename_i l c aw e2;rcases hd with hd | hd
   .rw [hd] at aw;cases aw
   .exact absurd e2 (hd c)
  .rfl
 refine J.step ⟨V,λw f=>?_,λe=>?_⟩
 rotate_left
 .subst e;simp only [av];have am:=λv=>GW (b:=b) (ds:=ds) (k:=k) T ops i rest v o al;obtain⟨es,he,Y,h⟩:=Uq _ h;have ag:seen P b.fn es= #[]:=S2 Y;rcases h with⟨ap,K,O⟩ | ⟨x,K,O⟩
  .cases ap with
   | value v=>exact⟨_,λw=>by simp [stepG.apply,O,U,GStep.after,G,am,Gk,he,ag],K⟩
   | skip=>exact⟨_,λw=>by simp [stepG.apply,O,U,GStep.after,G,am,Gk,he,ag],K⟩
   | enter g args=>exact⟨_,λw=>by simp [stepG.apply,O,U,GStep.after,G,Gk,IQ,he,ag],K⟩
   | round l g tm as az=>exact⟨_,λw=>by simp [stepG.apply,O,U,GStep.after,G,Gk,IQ,he,ag],K⟩
   | defer d=>
    have aq:=GW (b:=b) (ds:=d::ds) (k:=k) T ops i rest undef o al;exact⟨_,λw=>by rw [← aq];simp [stepG.apply,O,U,GStep.after,G,Gk,IQ,he,ag];rfl,K⟩
   | _=>exact K.elim
  .cases x with
   | panic v=>exact⟨_,λw=>by simp [stepG.apply,O,U,GStep.after,G,Gk,IQ,he,ag],K⟩
   | _=>exact K.elim
 obtain⟨s',Z,ac,a0,K⟩:=OB _ h f;rw [av];have Y:=Ri (P:=P) (fn:=b.fn) a0;have am:=λv=>GW (b:=b) (ds:=ds) (k:=k) T ops i rest v o al;cases O:(execOp (BJ T) o).run P w with
 | ok ap w'=>
  rw [O] at Z ac K Y;simp only [LJ] at Z ac Y;cases ap with
  | value v=>exact⟨_,s',w',seen P b.fn ((execOp (BJ T) o).events P w #[])++ #[],by simp [stepG.apply,O,U,GStep.after,G,am,Gk],K,Z,ac,by simpa using Y⟩
  | skip=>exact⟨_,s',w',seen P b.fn ((execOp (BJ T) o).events P w #[])++ #[],by simp [stepG.apply,O,U,GStep.after,G,am,Gk],K,Z,ac,by simpa using Y⟩
  | enter g args=>exact⟨_,s',w',seen P b.fn ((execOp (BJ T) o).events P w #[])++ #[],by simp [stepG.apply,O,U,GStep.after,G,Gk,IQ],K,Z,ac,by simpa using Y⟩
  | round l g tm as az=>exact⟨_,s',w',seen P b.fn ((execOp (BJ T) o).events P w #[])++ #[],by simp [stepG.apply,O,U,GStep.after,G,Gk,IQ],K,Z,ac,by simpa using Y⟩
  | defer d=>
   have aq:=GW (b:=b) (ds:=d::ds) (k:=k) T ops i rest undef o al;exact⟨_,s',w',seen P b.fn ((execOp (BJ T) o).events P w #[])++ #[],by
    rw [← aq];simp [stepG.apply,O,U,GStep.after,G,Gk,IQ];rfl,K,Z,ac,by simpa using Y⟩
  | _=>exact K.elim
 | halt x w'=>
  rw [O] at Z ac K Y;simp only [LJ] at Z ac Y;cases x with
  | panic v=>exact⟨_,s',w',seen P b.fn ((execOp (BJ T) o).events P w #[])++ #[],by simp [stepG.apply,O,U,GStep.after,G,Gk,IQ],K,Z,ac,by simpa using Y⟩
  | _=>exact K.elim
theorem Judge.unwanted{T:Av_}{ops:Ao_}{i:Nat}{rest:List Nat}{o:Oper}(K:ops[i]? =some o)(hw:Region.wanted o (yielded ops T)=false)
  (h:J.ok Q (G (fr b (CU T o.dst undef) ds (.inRegion ops rest::k)) cs) s):J.ok Q (G (fr b T ds (.inRegion ops (i::rest)::k)) cs) s:=by
 refine Judge.Dz V (λw=>?_) h;have O:=GW (b:=b) (ds:=ds) (k:=k) T ops i rest undef o K;rw [← O];simp [G,stepG,stepG.exec,fr,K,hw]
end
def Yl(P:Program)(o:Oper)(ρ:Operand->Value)(s:St)(v:Value):Prop:=lp P (execOp ρ o) s (λK s'=>K= .value v/\s'=s) (λ_ _=>False)
def Fa(L:Env)(ρ:Operand->Value):Prop:=∀x v,ev L x=some v->ρ x=v
def AY(L:Env)(ops:Ao_)(o:Oper):Option Bool:=
 match o.guard with
 | none=>some true
 | some (j,K)=>match(ops[j]?).bind (·.dst) with
  | some d=>match look L d with
   | some (.bool b)=>some (b==K)
   | some (.tuple _)=>some false
   | _=>none
  | none=>none
section
variable {b:Frame}{n:Nat}
theorem Has.Gn{T:Av_}(h:Has n L T):Fa L (BJ T):=λ_ _ e=>h.ev e
theorem getD_some{T:Av_}{d:Nat}{c:Bool}(h:T.getD d undef= .bool c):T[d]? =some (.bool c):=by
 rw [Array.getD_eq_getD_getElem?] at h;cases K:T[d]? with
 | none=>rw [K] at h;simp [undef] at h
 | some v=>rw [K] at h;simp at h;rw [h]
theorem Ci{T:Av_}{ops:Ao_}{o:Oper}{c:Bool}(h:Has n L T)(hw:AY L ops o=some c):Region.wanted o (yielded ops T)=c:=by
 unfold AY at hw;unfold Region.wanted;cases K:o.guard with
 | none=>rw [K] at hw;simpa using hw
 | some p=>
  obtain⟨j,Y⟩:=p;rw [K] at hw;simp only at hw ⊢;cases hd:(ops[j]?).bind (·.dst) with
  | none=>rw [hd] at hw;simp at hw
  | some d=>
   rw [hd] at hw;simp only at hw;cases O:look L d with
   | none=>rw [O] at hw;simp at hw
   | some v=>
    rw [O] at hw;cases v with
    | bool x=>
     simp only [Option.some.injEq] at hw;have:=getD_some (h.at_ d _ O);simp only [yielded,hd,Option.bind_some,this];simp [← hw]
    | tuple c=>
     simp only [Option.some.injEq] at hw;have K:=h.at_ d _ O;simp only [yielded,hd,Option.bind_some];cases U:T[d]? with
     | none=>simp [← hw]
     | some u=>
      have:u= .tuple c:=by rw [Array.getD_eq_getD_getElem?,U] at K;exact K
      subst this;simp [← hw]
    | _=>simp at hw
def Ey:Op->Bool | .defer _=>true | _=>false
def BU(b:Frame)(n:Nat)(o:Oper):Bool:=(b.kind != .early)&&(Bu n o.dst&& !Ey o.op)
theorem Yl.out{P:Program}{o:Oper}{ρ:Operand->Value}{s:St}{v:Value}(h:Yl P o ρ s v):Pal.lp P (execOp ρ o) s (λK s'=>K= .value v/\s'=s) (λ_ _=>False):=by unfold Yl at h;exact h
theorem Be{ops:Ao_}{i:Nat}{rest:List Nat}{o:Oper}{v:Value}(U:ops[i]? =some o)(hw:AY L ops o=some true)(K:BU b n o=true)
  (h:∀ρ,Fa L ρ->Yl P o ρ s v) (Y:JL J Q b n (AB L o.dst v) ds (.inRegion ops rest::k) cs s):
  JL J Q b n L ds (.inRegion ops (i::rest)::k) cs s:=λT O=>by
 simp only [BU,Bool.and_eq_true] at K
 obtain⟨K,Z,hd⟩:=K
 refine Judge.oper U (Ci O hw) (by simpa using K) (.inr λc ac=>by rw [ac] at hd;simp [Ey] at hd) (Er _ (h _ O.Gn).out ?_ ?_)
 .rintro al s' ⟨rfl,rfl⟩
  exact Y _ (O.put Z v)
 .intro _ _ ag;exact ag.elim
theorem IX{ops:Ao_}{i:Nat}{rest:List Nat}{o:Oper}(O:ops[i]? =some o)(hw:AY L ops o=some false)(U:Bu n o.dst=true)
  (Y:JL J Q b n (AB L o.dst undef) ds (.inRegion ops rest::k) cs s):
  JL J Q b n L ds (.inRegion ops (i::rest)::k) cs s:=λ_ K=>
 Judge.unwanted O (Ci K hw) (Y _ (K.put U undef))
theorem JL.op{ops:Ao_}{i:Nat}{rest:List Nat}{o:Oper}(ac:ops[i]? =some o)(hw:AY L ops o=some true)(K:BU b n o=true)
  (h:∀ρ,Fa L ρ->lp P (execOp ρ o) s (λU s'=>match U with
   | .value v=>JL J Q b n (AB L o.dst v) ds (.inRegion ops rest::k) cs s'
   | .skip=>JL J Q b n (AB L o.dst undef) ds (.inRegion ops rest::k) cs s'
   | _=>False) (λ_ _=>False)):
  JL J Q b n L ds (.inRegion ops (i::rest)::k) cs s:=λT O=>by
 simp only [BU,Bool.and_eq_true] at K
 obtain⟨K,Z,hd⟩:=K
 refine Judge.oper ac (Ci O hw) (by simpa using K) (.inr λc ag=>by rw [ag] at hd;simp [Ey] at hd) (Er _ (h _ O.Gn) ?_ ?_)
 .intro U s' Y
  cases U with
  | value v=>exact Y _ (O.put Z v)
  | skip=>exact Y _ (O.put Z undef)
  | _=>exact Y.elim
 .intro _ _ al;exact al.elim
end
variable {ρ:Operand->Value}{y z:Operand}{d:Option Tmp}{t u ty:TypeId}{p:String}{af:Ae_}{g:On_}{kd kd':IntKind}{m':Int}
section
variable {x:Operand}{v:Value}{m:Int}
theorem Yl.move(K:ρ x=v):Yl P ⟨d,.move x,ty,p,af,g⟩ ρ s v:=by simp [Yl,execOp,lp,pure,K]
theorem Yl.assign(K:ρ x=v):Yl P ⟨d,.assign x,ty,p,af,g⟩ ρ s v:=by simp [Yl,execOp,lp,pure,K]
theorem MW(K:ρ z= .bool true)(O:ρ x=v):Yl P ⟨d,.pick z x y,ty,p,af,g⟩ ρ s v:=by simp [Yl,execOp,lp,pure,bind,Sem.bind,asBool,K,O]
theorem Zp(K:ρ z= .bool false)(O:ρ y=v):Yl P ⟨d,.pick z x y,ty,p,af,g⟩ ρ s v:=by simp [Yl,execOp,lp,pure,bind,Sem.bind,asBool,K,O]
theorem Yl.lss(K:ρ x= .int kd m)(O:ρ y= .int kd m'):Yl P ⟨d,.binOp .lss t x y u,ty,p,af,g⟩ ρ s (.bool (decide (m<m'))):=by
 simp [Yl,execOp,lp,pure,bind,Sem.bind,K,O,eqGuard,Go.binOp,Op.intCmp]
theorem Yl.leq(K:ρ x= .int kd m)(O:ρ y= .int kd m'):Yl P ⟨d,.binOp .leq t x y u,ty,p,af,g⟩ ρ s (.bool (decide (m<=m'))):=by
 simp [Yl,execOp,lp,pure,bind,Sem.bind,K,O,eqGuard,Go.binOp,Op.intCmp]
theorem Yl.gtr(K:ρ x= .int kd m)(O:ρ y= .int kd m'):Yl P ⟨d,.binOp .gtr t x y u,ty,p,af,g⟩ ρ s (.bool (decide (m'<m))):=by
 simp [Yl,execOp,lp,pure,bind,Sem.bind,K,O,eqGuard,Go.binOp,Op.intCmp]
theorem Yl.geq(K:ρ x= .int kd m)(O:ρ y= .int kd m'):Yl P ⟨d,.binOp .geq t x y u,ty,p,af,g⟩ ρ s (.bool (decide (m'<=m))):=by
 simp [Yl,execOp,lp,pure,bind,Sem.bind,K,O,eqGuard,Go.binOp,Op.intCmp]
theorem Yl.eql(K:ρ x= .int kd m)(O:ρ y= .int kd m'):Yl P ⟨d,.binOp .eql t x y u,ty,p,af,g⟩ ρ s (.bool (decide (m=m'))):=by
 simp [Yl,execOp,lp,pure,bind,Sem.bind,K,O,eqGuard,Go.binOp,Op.intCmp];rfl
theorem Yl.neq(K:ρ x= .int kd m)(O:ρ y= .int kd m'):Yl P ⟨d,.binOp .neq t x y u,ty,p,af,g⟩ ρ s (.bool (!decide (m=m'))):=by
 simp [Yl,execOp,lp,pure,bind,Sem.bind,K,O,eqGuard,Go.binOp,Op.intCmp];rfl
theorem Yl.add(K:ρ x= .int kd m)(O:ρ y= .int kd m'):Yl P ⟨d,.binOp .add t x y u,ty,p,af,g⟩ ρ s (.int kd (kd.wrap (m+m'))):=by
 simp [Yl,execOp,lp,pure,bind,Sem.bind,K,O,eqGuard,Go.binOp,Op.intArith]
theorem Yl.sub(K:ρ x= .int kd m)(O:ρ y= .int kd m'):Yl P ⟨d,.binOp .sub t x y u,ty,p,af,g⟩ ρ s (.int kd (kd.wrap (m - m'))):=by
 simp [Yl,execOp,lp,pure,bind,Sem.bind,K,O,eqGuard,Go.binOp,Op.intArith]
theorem Yl.mul(K:ρ x= .int kd m)(O:ρ y= .int kd m'):Yl P ⟨d,.binOp .mul t x y u,ty,p,af,g⟩ ρ s (.int kd (kd.wrap (m*m'))):=by
 simp [Yl,execOp,lp,pure,bind,Sem.bind,K,O,eqGuard,Go.binOp,Op.intArith]
theorem Ks{a:Int}(h: -9223372036854775808<=a/\a<=9223372036854775807):IntKind.i64.wrap a=a:=by
 simp only [IntKind.wrap,IntKind.bits,IntKind.signed];simp;split <;> omega
theorem bI(K:ρ x= .int .i64 m)(O:ρ y= .int .i64 m')(hb: -9223372036854775808<=m+m'/\m+m'<=9223372036854775807):Yl P ⟨d,.binOp .add t x y u,ty,p,af,g⟩ ρ s (.int .i64 (m+m')):=by
 have:=Yl.add (P:=P) (s:=s) (d:=d) (t:=t) (u:=u) (ty:=ty) (p:=p) (af:=af) (g:=g) K O;rwa [Ks hb] at this
theorem dR(K:ρ x= .int .i64 m)(O:ρ y= .int .i64 m')(hb: -9223372036854775808<=m - m'/\m - m'<=9223372036854775807):Yl P ⟨d,.binOp .sub t x y u,ty,p,af,g⟩ ρ s (.int .i64 (m - m')):=by
 have:=Yl.sub (P:=P) (s:=s) (d:=d) (t:=t) (u:=u) (ty:=ty) (p:=p) (af:=af) (g:=g) K O;rwa [Ks hb] at this
theorem cG(K:ρ x= .int .i64 m)(O:ρ y= .int .i64 m')(hb: -9223372036854775808<=m*m'/\m*m'<=9223372036854775807):Yl P ⟨d,.binOp .mul t x y u,ty,p,af,g⟩ ρ s (.int .i64 (m*m')):=by
 have:=Yl.mul (P:=P) (s:=s) (d:=d) (t:=t) (u:=u) (ty:=ty) (p:=p) (af:=af) (g:=g) K O;rwa [Ks hb] at this
theorem Yl.rem(K:ρ x= .int kd m)(O:ρ y= .int kd m')(U:m'≠0):Yl P ⟨d,.binOp .rem t x y u,ty,p,af,g⟩ ρ s (.int kd (m.tmod m')):=by
 simp [Yl,execOp,lp,pure,bind,Sem.bind,K,O,eqGuard,Go.binOp,Op.intDiv,U]
theorem Yl.quo(K:ρ x= .int kd m)(O:ρ y= .int kd m')(U:m'≠0):Yl P ⟨d,.binOp .quo t x y u,ty,p,af,g⟩ ρ s (.int kd (kd.wrap (m.tdiv m'))):=by
 simp [Yl,execOp,lp,pure,bind,Sem.bind,K,O,eqGuard,Go.binOp,Op.intDiv,U]
theorem Yl.and(K:ρ x= .int kd m)(O:ρ y= .int kd m'):Yl P ⟨d,.binOp .and t x y u,ty,p,af,g⟩ ρ s (.int kd (kd.wrap (BitVec.ofInt kd.bits m&&& BitVec.ofInt kd.bits m').toNat)):=by
 simp [Yl,execOp,lp,pure,bind,Sem.bind,K,O,eqGuard,Go.binOp,Op.intBits]
theorem Yl.or(K:ρ x= .int kd m)(O:ρ y= .int kd m'):Yl P ⟨d,.binOp .or t x y u,ty,p,af,g⟩ ρ s (.int kd (kd.wrap (BitVec.ofInt kd.bits m ||| BitVec.ofInt kd.bits m').toNat)):=by
 simp [Yl,execOp,lp,pure,bind,Sem.bind,K,O,eqGuard,Go.binOp,Op.intBits]
theorem Yl.xor(K:ρ x= .int kd m)(O:ρ y= .int kd m'):Yl P ⟨d,.binOp .xor t x y u,ty,p,af,g⟩ ρ s (.int kd (kd.wrap (BitVec.ofInt kd.bits m ^^^ BitVec.ofInt kd.bits m').toNat)):=by
 simp [Yl,execOp,lp,pure,bind,Sem.bind,K,O,eqGuard,Go.binOp,Op.intBits]
theorem Yl.shl(K:ρ x= .int kd m)(O:ρ y= .int kd' m')(U:0<=m'):Yl P ⟨d,.binOp .shl t x y u,ty,p,af,g⟩ ρ s (.int kd (kd.wrap (m*2 ^ (min m'.toNat kd.bits)))):=by
 have:¬m'<0:=by omega
 simp [Yl,execOp,lp,pure,bind,Sem.bind,K,O,eqGuard,Go.binOp,Op.shift,this]
theorem Yl.shr(K:ρ x= .int kd m)(O:ρ y= .int kd' m')(U:0<=m'):Yl P ⟨d,.binOp .shr t x y u,ty,p,af,g⟩ ρ s (.int kd (m.fdiv (2 ^ (min m'.toNat kd.bits)))):=by
 have:¬m'<0:=by omega
 simp [Yl,execOp,lp,pure,bind,Sem.bind,K,O,eqGuard,Go.binOp,Op.shift,this]
theorem Yl.not{c:Bool}(K:ρ x= .bool c):Yl P ⟨d,.unOp .not t x,ty,p,af,g⟩ ρ s (.bool (!c)):=by
 simp [Yl,execOp,lp,pure,bind,Sem.bind,K,Op.unary]
theorem dC(K:ρ x= .int .i64 m)(hb: -9223372036854775808<= -m/\ -m<=9223372036854775807):Yl P ⟨d,.unOp .neg t x,ty,p,af,g⟩ ρ s (.int .i64 (-m)):=by
 simp [Yl,execOp,lp,pure,bind,Sem.bind,K,Op.unary,Op.intArith,Ks hb]
theorem FE(K:P.underlying t=some (.int kd'))(hu:P.underlying u=some (.int kd))(O:ρ x= .int kd' m):Yl P ⟨d,.convert t u x,ty,p,af,g⟩ ρ s (.int kd (kd.wrap m)):=by
 simp [Yl,execOp,lp,pure,bind,Sem.bind,O,Go.convert,underlying,program,K,hu,Conv.intToInt]
theorem Yl.extract{vs:Av_}{i:Nat}(K:ρ x= .tuple vs)(hi:vs[i]? =some v):Yl P ⟨d,.extract x i,ty,p,af,g⟩ ρ s v:=by
 simp [Yl,execOp,lp,pure,bind,Sem.bind,K,Instr.extract,hi]
theorem Yl.nilCheck{a:Addr}(K:ρ x= .pointer (some a)):Yl P ⟨d,.nilCheck x,ty,p,af,g⟩ ρ s (.pointer (some a)):=by
 simp [Yl,execOp,lp,pure,K]
theorem Yl.len{a:Option Addr}{e:TypeId}{l c:Nat}{ats:Array TypeId}(K:ats[0]? =some t)(O:P.underlying t=some (.slice e))(U:ρ x= .slice a l c):
  Yl P ⟨d,.call ⟨.builtin .len,#[x],ats⟩,ty,p,af,g⟩ ρ s (.int .i64 l):=by
 simp [Yl,execOp,lp,pure,bind,Sem.bind,U,resolve,invoke,builtin,Builtin.len_,K,underlying,program,O,goInt]
theorem JR{dsc:TypeDesc}(K:P.underlying t=some dsc)(O:∀ms,dsc≠ .interface ms)(U:ρ x=v):Yl P ⟨d,.makeInterface t x,ty,p,af,g⟩ ρ s (.iface t v):=by
 have:lp P (Instr.makeInterface t v) s (λr s'=>r= .iface t v/\s'=s) (λ_ _=>False):=by
  unfold Instr.makeInterface;simp only [lp,bind,Sem.bind,underlying,program,K];cases dsc <;> first | exact⟨rfl,rfl⟩ | exact absurd rfl (O _)
 simp only [Yl,execOp,U];exact Ay _ _ (Er _ this (λr s' ⟨Y,Z⟩=>⟨by rw [Y],Z⟩) (λ_ _ h=>h))
theorem L5{fn:Fn}{a c:Array Operand}{va K:Av_}(O:a.map ρ=va)(U:c.map ρ=K):Yl P ⟨d,.makeFunc fn a c,ty,p,af,g⟩ ρ s (.func fn va K):=by
 simp [Yl,execOp,lp,pure,bind,Sem.bind,Instr.makeFunc,O,U]
end
attribute [irreducible] Yl
def Le(E E':LH):Prop:=∀b o,E b=some o->E' b=some o
theorem Le.refl(E:LH):Le E E:=λ_ _ h=>h
theorem Le.trans{E E' K:LH}(h:Le E E')(k:Le E' K):Le E K:=λb o x=>k b o (h b o x)
theorem AN{E:LH}:Le E E:=Le.refl E
theorem Le.Ad{a b c:LH}(h:Le a b)(k:Le b c):Le a c:=h.trans k
def Bq:List (Nat×Obj)->LH->LH
 | [],H=>H
 | (b,o)::B,H=>λx=>if x=b then some o else Bq B H x
def mk(E H:LH)(B:List (Nat×Obj)):St:=⟨E,Bq B H,false⟩
def Nd(E H:LH):List (Nat×Obj)->Prop
 | []=>True
 | (b,_)::B=>E b=none/\H b=none/\(∀p∈B,p.1≠b)/\Nd E H B
theorem Tk{H:LH}{b:Nat}:∀{B:List (Nat×Obj)},H b=none->(∀p∈B,p.1≠b)->Bq B H b=none
 | [],h,_=>h
 | (c,o)::B,h,hb=>by
  have K:b≠c:=λe=>hb (c,o) (by simp) e.symm
  simp only [Bq,if_neg K]
  exact Tk h λp O=>hb p (List.mem_cons_of_mem _ O)
theorem H7{H:LH}{b:Nat}:∀{B:List (Nat×Obj)},Bq B H b=none->H b=none/\∀p∈B,p.1≠b
 | [],h=>⟨h,by simp⟩
 | (c,o)::B,h=>by
  simp only [Bq] at h
  split at h
  .cases h
  .rename_i O;obtain⟨U,Y⟩:=H7 h;refine⟨U,λp K=>?_⟩;rcases List.mem_cons.1 K with rfl | K
   .exact λe=>O e.symm
   .exact Y p K
theorem SS{H:LH}{x:Nat}{o:Obj}{r:Nat}:∀{B:List (Nat×Obj)},(∀p∈B,p.1≠r)->Bq (B++ [(r,o)]) H x=if x=r then some o else Bq B H x
 | [],_=>rfl
 | (c,u)::B,h=>by
  simp only [List.cons_append,Bq]
  by_cases e:x=c
  .subst e
   have:x≠r:=λe=>h (x,u) (by simp) e;simp [this]
  .simp only [if_neg e];exact SS λp K=>h p (List.mem_cons_of_mem _ K)
theorem Nd.append{E H:LH}{r:Nat}{o:Obj}(O:E r=none)(U:H r=none):∀{B:List (Nat×Obj)},(∀p∈B,p.1≠r)->Nd E H B->Nd E H (B++ [(r,o)])
 | [],_,_=>⟨O,U,by simp,trivial⟩
 | (c,u)::B,h,Y=>by
  obtain⟨Z,ac,ag,al⟩:=Y
  refine⟨Z,ac,λp K=>?_,Nd.append O U (λp K=>h p (List.mem_cons_of_mem _ K)) al⟩
  rcases List.mem_append.1 K with K | K
  .exact ag p K
  .simp at K;subst K;exact λe=>h (c,u) (by simp) e.symm
theorem J0{E H:LH}{b:Nat}{o:Obj}:∀{B:List (Nat×Obj)} {i:Nat},Nd E H B->B[i]? =some (b,o)->Bq B H b=some o
 | [],_,_,h=>by simp at h
 | (c,u)::B,0,_,h=>by simp at h;obtain⟨rfl,rfl⟩:=h;simp [Bq]
 | (c,u)::B,i+1,K,h=>by
  simp at h
  have O:b≠c:=K.2.2.1 (b,o) (List.mem_of_getElem? h)
  simp only [Bq,if_neg O]
  exact J0 K.2.2.2 h
theorem TB{E H:LH}{b:Nat}{o o':Obj}:∀{B:List (Nat×Obj)} {i:Nat},Nd E H B->B[i]? =some (b,o)->Bq (B.set i (b,o')) H=λx=>if x=b then some o' else Bq B H x
 | [],_,_,h=>by simp at h
 | (c,u)::B,0,_,h=>by
  simp at h;obtain⟨rfl,rfl⟩:=h
  funext x
  simp only [List.set_cons_zero,Bq]
  split <;> rfl
 | (c,u)::B,i+1,K,h=>by
  simp at h
  have O:b≠c:=K.2.2.1 (b,o) (List.mem_of_getElem? h)
  funext x
  simp only [List.set_cons_succ,Bq]
  rw [TB K.2.2.2 h]
  by_cases e:x=c
  .subst e;simp [Ne.symm O]
  .simp [e]
theorem Nd.set{E H:LH}{b:Nat}{o o':Obj}:∀{B:List (Nat×Obj)} {i:Nat},Nd E H B->B[i]? =some (b,o)->Nd E H (B.set i (b,o'))
 | [],_,_,h=>by simp at h
 | (c,u)::B,0,K,h=>by simp at h;obtain⟨rfl,rfl⟩:=h;exact K
 | (c,u)::B,i+1,K,h=>by
  simp at h
  refine⟨K.1,K.2.1,λp O=>?_,K.2.2.2.set h⟩
  have hm:=List.mem_or_eq_of_mem_set O
  rcases hm with hm | rfl
  .exact K.2.2.1 p hm
  .exact K.2.2.1 (b,o) (List.mem_of_getElem? h)
theorem Nd.Vl{E H:LH}{b:Nat}{o:Obj}:∀{B:List (Nat×Obj)} {i:Nat},Nd E H B->B[i]? =some (b,o)->E b=none
 | [],_,_,h=>by simp at h
 | (c,u)::B,0,K,h=>by simp at h;obtain⟨rfl,rfl⟩:=h;exact K.1
 | (c,u)::B,i+1,K,h=>by simp at h;exact Nd.Vl K.2.2.2 h
theorem Qx{E H:LH}{B:List (Nat×Obj)}{i b:Nat}{o:Obj}(K:Nd E H B)(h:B[i]? =some (b,o)):(mk E H B).get b=some o:=by
 unfold St.get mk;simp only [K.Vl h,J0 K h]
theorem XJ{E H:LH}{B:List (Nat×Obj)}{b:Nat}{o:Obj}(h:E b=some o):(mk E H B).get b=some o:=by
 unfold St.get mk;simp only [h]
theorem Um{E H:LH}{B:List (Nat×Obj)}{i b off:Nat}{c:Av_}{e:TypeId}{f:Nat×Nat}{v:Value}(K:Nd E H B)(h:B[i]? =some (b,.cells c e f))(O:c[off]? =some v):(mk E H B).cell? ⟨b,off,none⟩=some v:=by
 unfold St.cell?;rw [Qx K h];exact O
theorem YX{E H:LH}{B:List (Nat×Obj)}{b off:Nat}{c:Av_}{e:TypeId}{f:Nat×Nat}{v:Value}(h:E b=some (.cells c e f))(K:c[off]? =some v):(mk E H B).cell? ⟨b,off,none⟩=some v:=by
 unfold St.cell?;rw [XJ h];exact K
variable {E H:LH}{B B':List (Nat×Obj)}
section
variable {b:Frame}{n:Nat}
theorem Kv{r:Nat}(O:(mk E H B).E r=none)(U:(mk E H B).H r=none)(o:Obj)(Y:Nd E H B):Nd E H (B++ [(r,o)])/\(mk E H B).upd r o=mk E H (B++ [(r,o)]):=by
 obtain⟨Z,K⟩:=H7 U;refine⟨Nd.append O Z K Y,?_⟩;unfold St.upd mk;congr 1;funext x;exact(SS K).symm
theorem gu{i bk:Nat}{o o':Obj}(K:Nd E H B)(h:B[i]? =some (bk,o)):(mk E H B).upd bk o'=mk E H (B.set i (bk,o')):=by
 unfold St.upd mk;congr 1;exact(TB K h).symm
theorem JL.drop(B':List (Nat×Obj))(h:∀p∈B',∃i:Nat,B[i]? =some p)(U:Nd E H B)(k':JL J Q b n L ds k cs (mk E H B')):JL J Q b n L ds k cs (mk E H B):=
 JL.ghost (s':=mk E H B') ⟨λ_ _ h=>h,λx o O=>by
  show Bq B H x=some o
  have key:∀{B':List (Nat×Obj)},(∀p∈B',∃i:Nat,B[i]? =some p)->Bq B' H x=some o->Bq B H x=some o:=by
   intro B'
   induction B' with
   | nil=>
    intro _ O
    have al:∀p∈B,p.1≠x:=by
     intro p K e
     have:∀{B:List (Nat×Obj)},Nd E H B->p∈B->H p.1=none:=by
      intro B U K
      induction B with
      | nil=>simp at K
      | cons q B Y=>
       rcases List.mem_cons.1 K with rfl | K
       .exact U.2.1
       .exact Y U.2.2.2 K
     have ac:=this U K
     rw [e] at ac
     have ag:H x=some o:=O
     rw [ac] at ag;cases ag
    have:∀{B:List (Nat×Obj)},(∀p∈B,p.1≠x)->Bq B H x=H x:=by
     intro B Z
     induction B with
     | nil=>rfl
     | cons q B Y=>
      have am:x≠q.1:=λe=>Z q (by simp) e.symm
      obtain⟨c,u⟩:=q
      simp only [Bq,if_neg am]
      exact Y λp K=>Z p (List.mem_cons_of_mem _ K)
    rw [this al];exact O
   | cons q B' Y=>
    intro Z O
    obtain⟨c,u⟩:=q
    simp only [Bq] at O
    split at O
    .rename_i e;subst e;cases O
     obtain⟨i,hi⟩:=Z (x,o) (by simp)
     exact J0 U hi
    .exact Y (λp K=>Z p (List.mem_cons_of_mem _ K)) O
  exact key h O,λ_ _ h=> .inl h,V⟩ k'
theorem MR{x:Nat}:∀{B:List (Nat×Obj)} {i:Nat} {bk:Nat} {o u:Obj},Nd E H B->B[i]? =some (bk,o)->Bq (B.eraseIdx i) H x=some u->x≠bk/\Bq B H x=some u
 | [],_,_,_,_,_,h,_=>by simp at h
 | (c,v)::B,0,bk,o,u,O,h,K=>by
  simp at h;obtain⟨rfl,rfl⟩:=h
  simp only [List.eraseIdx_cons_zero] at K
  have U:x≠c:=by
   intro e;subst e;rw [Tk O.2.1 O.2.2.1] at K;cases K
  exact⟨U,by simp only [Bq,if_neg U];exact K⟩
 | (c,v)::B,i+1,bk,o,u,O,h,K=>by
  simp at h;simp only [List.eraseIdx_cons_succ,Bq] at K ⊢;split at K
  .rename_i e;subst e;rw [if_pos rfl];exact⟨λe=>O.2.2.1 (bk,o) (List.mem_of_getElem? h) e.symm,K⟩
  .rename_i e;rw [if_neg e];exact MR O.2.2.2 h K
theorem JL.freeze(i:Nat){bk:Nat}{o:Obj}(K:Nd E H B)(h:B[i]? =some (bk,o))
  (k':∀E',Le E E'->E' bk=some o->Nd E' H (B.eraseIdx i)->JL J Q b n L ds k cs (mk E' H (B.eraseIdx i))):JL J Q b n L ds k cs (mk E H B):=by
 have ap:=List.mem_of_getElem? h;have aq:E bk=none/\H bk=none:=by
  have:∀{B:List (Nat×Obj)},Nd E H B->(bk,o)∈B->E bk=none/\H bk=none:=by
   intro B K O
   induction B with
   | nil=>simp at O
   | cons q B Y=>
    rcases List.mem_cons.1 O with rfl | O
    .exact⟨K.1,K.2.1⟩
    .exact Y K.2.2.2 O
  exact this K ap
 let E':LH:=λx=>if x=bk then some o else E x
 have ag:E' bk=some o:=by simp [E']
 have hle:Le E E':=λx u U=>by
  have:x≠bk:=λe=>by subst e;rw [aq.1] at U;cases U
  simp [E',this,U]
 have av:Nd E' H (B.eraseIdx i):=by
  have:∀{B:List (Nat×Obj)} {i:Nat},Nd E H B->B[i]? =some (bk,o)->Nd E' H (B.eraseIdx i)/\∀p∈B.eraseIdx i,p.1≠bk:=by
   intro B
   induction B with
   | nil=>intro i _ h;simp at h
   | cons q B Y=>
    obtain⟨c,v⟩:=q;intro i K h;have up:∀{B:List (Nat×Obj)},Nd E H B->(∀p∈B,p.1≠bk)->Nd E' H B:=by
     intro B K al
     induction B with
     | nil=>trivial
     | cons q B aw=>exact⟨by simpa [E',al q (by simp)] using K.1,K.2.1,K.2.2.1,aw K.2.2.2 λp O=>al p (List.mem_cons_of_mem _ O)⟩
    cases i with
    | zero=>
     simp at h;obtain⟨rfl,rfl⟩:=h;exact⟨up K.2.2.2 K.2.2.1,K.2.2.1⟩
    | succ i=>
     simp at h;obtain⟨Z,ac⟩:=Y K.2.2.2 h;have am:c≠bk:=λe=>K.2.2.1 (bk,o) (List.mem_of_getElem? h) e.symm;refine⟨⟨by simpa [E',am] using K.1,K.2.1,λp O=>K.2.2.1 p (List.mem_of_mem_eraseIdx O),Z⟩,λp O=>?_⟩;rcases List.mem_cons.1 O with rfl | O
     .exact am
     .exact ac p O
  exact(this K h).1
 refine JL.ghost (s':=mk E' H (B.eraseIdx i)) ⟨λx u U=>hle x u U,λx u U=>(MR K h U).2,λx u U=>?_,V⟩ (k' E' hle ag av);by_cases e:x=bk
 .subst e;right;have:u=o:=by have:E' x=some u:=U;rw [ag] at this;exact(Option.some.inj this).symm
  subst this;refine⟨J0 K h,?_⟩;cases ay:(mk E' H (B.eraseIdx i)).H x with
  | none=>rfl
  | some y=>exact absurd rfl (MR K h ay).1
 .left;have Z:E' x=some u:=U;have ac:E' x=E x:=by simp [E',e]
  show E x=some u;rw [← ac];exact Z
def Fn(P:Program)(f:FuncId)(args:Av_)(s:St)(R:Value->St->Prop):Prop:=
 ∀(J:Judge P) (Q:Gs_) (c:Frame) (cs:Lf_),(∀v s',R v s'->J.ok Q (G (c.finish v) cs) s')->J.ok Q (G (Frame.enter P f args .normal) (c::cs)) s
def Ec(P:Program)(f:FuncId):Bool:=match P.funcs[f]? with | some fn=> !(fn.name== "runtime.NumGoroutine")&&fn.body.isSome | none=>false
def evs(L:Env):List Operand->Option (Lv_)
 | []=>some []
 | x::xs=>match ev L x,evs L xs with | some v,some vs=>some (v::vs) | _,_=>none
theorem Gf{L:Env}{ρ:Operand->Value}(h:Fa L ρ):∀{xs:List Operand} {vs:Lv_},evs L xs=some vs->xs.map ρ=vs
 | [],vs,e=>by simp [evs] at e;subst e;rfl
 | x::xs,vs,e=>by
  simp only [evs] at e
  split at e
  .rename_i v ws K O
   cases e;rw [List.map_cons,h x v K,Gf h O]
  .cases e
theorem JN{f:FuncId}{args:Av_}{s:St}{Q:Next->St->Prop}{X:Halt->St->Prop}(K:Ec P f=true)(h:Q (.enter f args) s):lp P (callFunc f args) s Q X:=by
 unfold Ec at K;unfold callFunc;simp only [bind,Sem.bind,program,lp];cases O:P.funcs[f]? with
 | none=>rw [O] at K;cases K
 | some fn=>
  rw [O] at K;simp only [Bool.and_eq_true,Bool.not_eq_true'] at K;have hb:fn.body.isNone=false:=by cases U:fn.body <;> simp_all
  simp only [K.1,hb,Bool.false_eq_true,if_false];exact h
def BK(P:Program)(f:FuncId)(L:Env)(n:Nat)(s:St)(v:Value):Prop:=∃fn,P.funcs[f]? =some fn/\∀T,Has n L T->lp P (results fn T) s (λu s'=>u=v/\s'=s) (λ_ _=>False)
theorem Judge.leave{T:Av_}{todo:Li_}{c:Frame}{s:St}{v:Value}{fn:Func}(Y:b.kind= .normal)(Z:P.funcs[b.fn]? =some fn)(U:lp P (results fn T) s (λu s'=>u=v/\s'=s) (λ_ _=>False))
  (h:J.ok Q (G (c.finish v) cs) s):J.ok Q (G (EJ b T [] todo) (c::cs)) s:=by
 refine J.step ⟨V,λw f=>?_,λe=>?_⟩
 rotate_left
 .subst e;obtain⟨es,he,am,U⟩:=Uq _ U;have ap:seen P b.fn es= #[]:=S2 am;rcases U with⟨u,⟨rfl,_⟩,O⟩ | ⟨x,K,_⟩
  .exact⟨_,λw=>by simp [G,stepG,unwind,EJ,Z,O,doReturn,Y,GStep.after,he,ap],h⟩
  .exact K.elim
 obtain⟨s',ac,ag,al,K⟩:=OB _ U f;cases O:(results fn T).run P w with
 | halt x w'=>rw [O] at K;exact K.elim
 | ok u w'=>
  rw [O] at ac ag al K;obtain⟨rfl,rfl⟩:=K;exact⟨_,s',w',seen P b.fn ((results fn T).events P w #[])++ #[],by simp [G,stepG,unwind,EJ,Z,O,doReturn,Y,GStep.after],h,ac,ag,by simp only [Array.append_empty];exact Ri al⟩
theorem JL.ret{s:St}{c:Frame}{v:Value}(O:b.kind= .normal)(U:b.roundOf=none)(K:BK P b.fn L n s v)(h:J.ok Q (G (c.finish v) cs) s):JL J Q b n L [] (.code .ret::k) (c::cs) s:=λT Y=>by
 obtain⟨fn,Z,K⟩:=K
 refine Judge.Dz (g':=G (EJ b T [] (.code .ret::k)) (c::cs)) rfl (λw=>by simp [G,stepG,stepG.exec,fr,EJ,U]) ?_
 exact Judge.leave O Z (K T Y) h
theorem JL.fin{s:St}{c:Frame}{v:Value}(O:b.kind= .normal)(U:b.roundOf=none)(K:BK P b.fn L n s v)(h:J.ok Q (G (c.finish v) cs) s):JL J Q b n L [] [] (c::cs) s:=λT Y=>by
 obtain⟨fn,Z,K⟩:=K
 refine Judge.Dz (g':=G (EJ b T [] []) (c::cs)) rfl (λw=>by simp [G,stepG,stepG.exec,fr,EJ,U]) ?_
 exact Judge.leave O Z (K T Y) h
theorem BK.one{f:FuncId}{fn:Func}{s:St}{t:Tmp}{v:Value}(K:P.funcs[f]? =some fn)(O:fn.results= #[.tmp t])(h:look L t=some v):BK P f L n s v:=
 ⟨fn,K,λT U=>by
  have e:results fn T=Sem.pure v:=by
   have:=U.at_ t v h
   simp only [results,O,Array.mapM_eq_mapM_toList]
   show Sem.pure (T.getD t undef)=_
   rw [this]
  rw [e];exact⟨rfl,rfl⟩⟩
theorem BK.none{f:FuncId}{fn:Func}{s:St}(K:P.funcs[f]? =some fn)(O:fn.results= #[]):BK P f L n s (.tuple #[]):=
 ⟨fn,K,λT U=>by
  have e:results fn T=Sem.pure (.tuple #[]):=by
   simp only [results,O,Array.mapM_eq_mapM_toList]
   rfl
  rw [e];exact⟨rfl,rfl⟩⟩
def GB:Nat->Lv_->Env
 | _,[]=> []
 | i,v::vs=>(i,v)::GB (i+1) vs
theorem Kr{i:Nat}{vs:Lv_}{t:Nat}{v:Value}(h:look (GB i vs) t=some v):i<=t/\vs[t - i]? =some v:=by
 induction vs generalizing i with
 | nil=>simp [GB,look] at h
 | cons u vs K=>
  simp only [GB,look] at h;split at h
  .rename_i e;subst e;cases h;simp
  .rename_i U;obtain⟨Y,O⟩:=K h;refine⟨by omega,?_⟩;have:t - i=(t - (i+1))+1:=by omega
   rw [this];simpa using O
end
def By(P:Program)(t:TypeId):Option Nat:=(P.info? t).map (·.size)
def DU(P:Program)(t:TypeId):Option Bool:=match P.underlying t with | some (.struct _)=>some true | some (.array _ _)=>some true | some _=>some false | none=>none
def zeroOf(P:Program)(t:TypeId):Option Value:=(P.info? t).bind (·.zero)
theorem Fh{K:Nat}{Q:Nat->St->Prop}{X:Halt->St->Prop}(h:By P t=some K)(k:Q K s):lp P (Go.sizeOf t) s Q X:=by
 unfold By at h;simp only [Go.sizeOf,typeInfo,bind,Sem.bind,program,lp];cases hi:P.info? t with
 | none=>rw [hi] at h;cases h
 | some i=>rw [hi] at h;simp at h;subst h;exact k
theorem H8{z:Value}{Q:Value->St->Prop}{X:Halt->St->Prop}(h:zeroOf P t=some z)(k:Q z s):lp P (zeroValue t) s Q X:=by
 unfold zeroOf at h;simp only [zeroValue,typeInfo,bind,Sem.bind,program,lp];cases hi:P.info? t with
 | none=>rw [hi] at h;cases h
 | some i=>
  rw [hi] at h;simp at h;show lp P (match i.zero with | some v=>pure v | none=>unsupported _) s Q X
  rw [h];exact k
theorem Oz{c:Bool}{Q:Bool->St->Prop}{X:Halt->St->Prop}(h:DU P t=some c)(k:Q c s):lp P (isAgg t) s Q X:=by
 unfold DU at h;simp only [isAgg,underlying,bind,Sem.bind,program,lp];cases hu:P.underlying t with
 | none=>rw [hu] at h;cases h
 | some u=>
  rw [hu] at h;cases u <;> simp at h <;> subst h <;> exact k
theorem Cx{u:TypeDesc}{Q:TypeDesc->St->Prop}{X:Halt->St->Prop}(h:P.underlying t=some u)(k:Q u s):lp P (underlying t) s Q X:=by
 simp only [underlying,bind,Sem.bind,program,lp,h];exact k
theorem UP{a:Addr}{v:Value}{Q:Value->St->Prop}{X:Halt->St->Prop}(h:s.cell? a=some v)(k:Q v s):lp P (load a) s Q X:=⟨V,v,h,k⟩
theorem SK{a:Addr}{Q:Av_->St->Prop}{X:Halt->St->Prop}:∀(vs:Lv_) (i:Nat) (acc:Av_),(∀j v,vs[j]? =some v->s.cell? (a.add (i+j))=some v)->Q (acc++vs.toArray) s->lp P (loadCellsFrom a i vs.length acc) s Q X
 | [],i,acc,_,k=>by simpa [loadCellsFrom,lp,pure] using k
 | v::vs,i,acc,h,k=>by
  simp only [List.length_cons,loadCellsFrom]
  refine Ay _ _ (UP (h 0 v V) ?_)
  refine SK vs (i+1) (acc.push v) (λj u K=>?_) (by simpa using k)
  have:=h (j+1) u (by simpa using K)
  rwa [show i+1+j=i+(j+1) from by omega]
theorem SZ{a:Addr}{vs:Lv_}{m:Nat}{Q:Av_->St->Prop}{X:Halt->St->Prop}(hm:m=vs.length)(h:∀j v,vs[j]? =some v->s.cell? (a.add j)=some v)(k:Q vs.toArray s):lp P (loadCells a m) s Q X:=by
 subst hm;exact SK vs 0 #[] (λj v K=>by simpa using h j v K) (by simpa using k)
theorem Tb{a:Addr}{v:Value}{Q:Value->St->Prop}{X:Halt->St->Prop}(K:DU P t=some false)(h:s.cell? a=some v)(k:Q v s):lp P (loadVar t a) s Q X:=by
 unfold loadVar;refine Ay _ _ (Oz K ?_);exact UP h k
theorem S6{a:Addr}{vs:Lv_}{Q:Value->St->Prop}{X:Halt->St->Prop}(K:DU P t=some true)(O:By P t=some vs.length)(h:∀j v,vs[j]? =some v->s.cell? (a.add j)=some v)(k:Q (.agg vs.toArray) s):lp P (loadVar t a) s Q X:=by
 unfold loadVar;refine Ay _ _ (Oz K ?_);show lp P (do let r ← loadCells a (← Go.sizeOf t);pure (Value.agg r)) s Q X
 refine Ay (x:=Go.sizeOf t) _ (Fh O ?_);refine Ay _ _ (SZ V h ?_);exact k
variable {e:TypeId}
section
variable {x:Operand}{v:Value}{m:Int}
theorem FM{o:Oper}{sm:Sem Value}(K:execOp ρ o=(do pure (Next.value (← sm))))(h:lp P sm s (λr s'=>r=v/\s'=s) (λ_ _=>False)):Yl P o ρ s v:=by
 unfold Yl;rw [K];exact Ay _ _ (Er _ h (λr s' ⟨O,U⟩=>⟨by rw [O],U⟩) (λ_ _ h=>h))
theorem Yl.load{a:Addr}(K:DU P t=some false)(O:ρ x= .pointer (some a))(h:s.cell? a=some v):Yl P ⟨d,.load t x,ty,p,af,g⟩ ρ s v:=
 FM (sm:=Instr.loadAt t (ρ x)) V (by rw [O];exact Tb K h ⟨rfl,rfl⟩)
theorem IN{a:Addr}{vs:Lv_}(K:DU P t=some true)(O:By P t=some vs.length)(U:ρ x= .pointer (some a))(h:∀j v,vs[j]? =some v->s.cell? (a.add j)=some v):Yl P ⟨d,.load t x,ty,p,af,g⟩ ρ s (.agg vs.toArray):=
 FM (sm:=Instr.loadAt t (ρ x)) V (by rw [U];exact S6 K O h ⟨rfl,rfl⟩)
theorem Yl.fieldAddr{a:Addr}{O:Array Field}{i:Nat}{K:Field}{U:Nat}(Y:P.underlying t=some (.struct O))(hi:O[i]? =some K)(Z:By P K.type=some (U+1))(ac:ρ x= .pointer (some a)):
  Yl P ⟨d,.fieldAddr t x i,ty,p,af,g⟩ ρ s (.pointer (some (a.add K.offset))):=
 FM (sm:=Instr.fieldAt t (ρ x) i) V (by
  rw [ac];unfold Instr.fieldAt
  refine Ay _ _ (Cx Y ?_)
  simp only [hi,Instr.sureAddr,bind,Sem.bind,pure]
  refine Ay (x:=fieldPlace a K) _ ?_
  unfold fieldPlace
  refine Ay _ _ (Fh Z ?_)
  simp only [Nat.add_eq_zero_iff,Nat.succ_ne_self,and_false,if_false,lp,pure]
  exact⟨trivial,trivial⟩)
theorem MY{a:Addr}{l c K:Nat}(O:P.underlying t=some (.slice e))(U:By P e=some K)(Y:ρ x= .slice (some a) l c)(Z:ρ y= .int kd m)(h:0<=m/\m<l):
  Yl P ⟨d,.indexAddr t x y,ty,p,af,g⟩ ρ s (.pointer (some (a.add (m.toNat*K)))):=
 FM (sm:=Instr.indexAt t (ρ x) (ρ y)) V (by
  rw [Y,Z];unfold Instr.indexAt
  simp only [asIntOf,bind,Sem.bind,pure]
  refine Ay (x:=underlying t) _ (Cx O ?_)
  simp only [Sem.bind]
  refine Ay (x:=underlying t) _ (Cx O ?_)
  simp only [Sem.bind,h,and_self,if_true]
  refine Ay (x:=Go.sizeOf e) _ (Fh U ?_)
  exact⟨rfl,rfl⟩)
theorem TK{a:Addr}{l K:Nat}(O:P.underlying t=some (.array l e))(U:By P e=some K)(Y:ρ x= .pointer (some a))(Z:ρ y= .int kd m)(h:0<=m/\m<l):
  Yl P ⟨d,.indexAddr t x y,ty,p,af,g⟩ ρ s (.pointer (some (a.add (m.toNat*K)))):=
 FM (sm:=Instr.indexAt t (ρ x) (ρ y)) V (by
  rw [Y,Z];unfold Instr.indexAt
  simp only [asIntOf,bind,Sem.bind,pure]
  refine Ay (x:=underlying t) _ (Cx O ?_)
  simp only [Sem.bind,Instr.sureAddr,pure]
  refine Ay (x:=underlying t) _ (Cx O ?_)
  simp only [Sem.bind,h,and_self,if_true]
  refine Ay (x:=Go.sizeOf e) _ (Fh U ?_)
  exact⟨rfl,rfl⟩)
end
variable {ops:Ao_}{rest:List Nat}
section
variable {b:Frame}{n:Nat}
variable {i:Nat}{x:Operand}{v:Value}
theorem JX{cells:Av_}{Q:Addr->St->Prop}{X:Halt->St->Prop}(K:Nd E H B)(k:∀r,Nd E H (B++ [(r,.cells cells e (0,0))])->Q ⟨r,0,none⟩ (mk E H (B++ [(r,.cells cells e (0,0))]))):lp P (newRow e cells) (mk E H B) Q X:=by
 simp only [newRow,newObj,bind,Sem.bind,lp,pure];refine⟨V,λr O U=>?_⟩;obtain⟨Y,Z⟩:=Kv O U (.cells cells e (0,0)) K;rw [Z];exact k r Y
theorem JL.alloc{z:Value}(K:ops[i]? =some ⟨d,.alloc e,ty,p,af,g⟩)(hw:AY L ops ⟨d,.alloc e,ty,p,af,g⟩=some true)(O:BU b n ⟨d,.alloc e,ty,p,af,g⟩=true)(U:Nd E H B)(Y:zeroOf P e=some z)
  (h:∀r,Nd E H (B++ [(r,.cells z.cells e (0,0))])->JL J Q b n (AB L d (.pointer (some ⟨r,0,none⟩))) ds (.inRegion ops rest::k) cs (mk E H (B++ [(r,.cells z.cells e (0,0))]))):
  JL J Q b n L ds (.inRegion ops (i::rest)::k) cs (mk E H B):=
 JL.op K hw O λρ _=>by
  show lp P (do pure (Next.value (← Instr.alloc e true (.tuple #[])))) _ _ _
  refine Ay _ _ ?_
  unfold Instr.alloc
  refine Ay _ _ (H8 Y ?_)
  refine Ay _ _ (JX U λr Z=>?_)
  exact h r Z
theorem JL.box(K:ops[i]? =some ⟨d,.box e x,ty,p,af,g⟩)(hw:AY L ops ⟨d,.box e x,ty,p,af,g⟩=some true)(O:BU b n ⟨d,.box e x,ty,p,af,g⟩=true)(U:Nd E H B)(Y:ev L x=some v)
  (h:∀r,Nd E H (B++ [(r,.cells v.cells e (0,0))])->JL J Q b n (AB L d (.pointer (some ⟨r,0,none⟩))) ds (.inRegion ops rest::k) cs (mk E H (B++ [(r,.cells v.cells e (0,0))]))):
  JL J Q b n L ds (.inRegion ops (i::rest)::k) cs (mk E H B):=
 JL.op K hw O λρ Z=>by
  show lp P (do pure (Next.value (← Instr.box e (ρ x)))) _ _ _
  rw [Z x v Y]
  refine Ay _ _ ?_
  unfold Instr.box
  refine Ay _ _ (JX U λr ac=>?_)
  exact h r ac
def A9(c:Av_)(off:Nat):Lv_->Av_
 | []=>c
 | v::vs=>A9 (c.setIfInBounds off v) (off+1) vs
theorem MS(c:Av_)(off:Nat)(vs:Lv_):(A9 c off vs).size=c.size:=by
 induction vs generalizing c off with
 | nil=>rfl
 | cons v vs K=>simp [A9,K]
theorem Od{bk:Nat}{Q:Unit->St->Prop}{X:Halt->St->Prop}{pl off:Nat}{sp:Option Nat}:∀(vs:Lv_) (j:Nat) (c:Av_) (B:List (Nat×Obj)),(∀v∈vs,C5 v=true)->Nd E H B->B[pl]? =some (bk,.cells c e (0,0))->off+j+vs.length<=c.size->(sp=none∨0<j)->
  (∀B',B'=B.set pl (bk,.cells (A9 c (off+j) vs) e (0,0))->Nd E H B'->Q () (mk E H B'))->lp P (storeCells ⟨bk,off,sp⟩ vs j) (mk E H B) Q X
 | [],j,c,B,_,O,K,_,_,k=>by
  simp only [storeCells,lp,pure]
  refine k B ?_ O
  simp only [A9]
  exact(List.ext_getElem? λi=>by
   by_cases hi:pl=i
   .subst hi
    obtain⟨Z,ac⟩:=List.getElem?_eq_some_iff.1 K
    simp [Z,ac]
   .simp [hi])
 | v::vs,j,c,B,U,O,K,hle,Y,k=>by
  simp only [storeCells,List.length_cons] at*
  have ag:off+j<c.size:=by omega
  have al:(Addr.add ⟨bk,off,sp⟩ j)=⟨bk,off+j,none⟩:=by
   unfold Addr.add;split
   .rename_i am;subst am;rcases Y with rfl | Y
    .rfl
    .omega
   .rfl
  have ap:(cellAt (.cells c e (0,0)) ⟨bk,off+j,none⟩).isSome=true:=by simp [cellAt,ag]
  refine Ay (x:=store (Addr.add ⟨bk,off,sp⟩ j) v) _ ?_;rw [al];refine⟨V,U v (by simp),_,J0 O K,ap,by simp [frozenAt],?_⟩;simp only [lp];have aq:Lu (.cells c e (0,0)) ⟨bk,off+j,none⟩ v= .cells (c.setIfInBounds (off+j) v) e (0,0):=by simp [Lu]
  rw [aq,gu O K];have av:(B.set pl (bk,.cells (c.setIfInBounds (off+j) v) e (0,0)))[pl]? =some (bk,.cells (c.setIfInBounds (off+j) v) e (0,0)):=by
   have:pl<B.length:=(List.getElem?_eq_some_iff.1 K).1;simp [this]
  refine Od vs (j+1) _ _ (λu hu=>U u (List.mem_cons_of_mem _ hu)) (O.set K) av (by simp;omega) (.inr (by omega)) λaw e2 ay=>k aw ?_ ay;rw [e2,List.set_set];simp only [A9]
  rfl
theorem Qs{bk off pl:Nat}{c:Av_}{Q:Unit->St->Prop}{X:Halt->St->Prop}(K:By P t=some v.cells.size)(O:∀u∈v.cells.toList,C5 u=true)(U:Nd E H B)(Y:B[pl]? =some (bk,.cells c e (0,0)))(hle:off+v.cells.size<=c.size)
  (k:Nd E H (B.set pl (bk,.cells (A9 c off v.cells.toList) e (0,0)))->Q () (mk E H (B.set pl (bk,.cells (A9 c off v.cells.toList) e (0,0))))):lp P (storeVar t ⟨bk,off,none⟩ v) (mk E H B) Q X:=by
 unfold storeVar;refine Ay _ _ (Fh K ?_);simp only [ne_eq,not_true_eq_false,if_false];refine Od v.cells.toList 0 c B O U Y (by simpa using hle) (.inl V) λB' e Z=>?_;subst e;exact k Z
theorem JL.store{bk off:Nat}{c:Av_}(pl:Nat)(O:ops[i]? =some ⟨d,.store t x y,ty,p,af,g⟩)(hw:AY L ops ⟨d,.store t x y,ty,p,af,g⟩=some true)(U:BU b n ⟨d,.store t x y,ty,p,af,g⟩=true)(Y:Nd E H B)
  (Z:ev L x=some (.pointer (some ⟨bk,off,none⟩))) (ac:ev L y=some v) (ag:By P t=some v.cells.size) (al:∀u∈v.cells.toList,C5 u=true) (am:B[pl]? =some (bk,.cells c e (0,0))) (hle:off+v.cells.size<=c.size)
  (h:Nd E H (B.set pl (bk,.cells (A9 c off v.cells.toList) e (0,0)))->JL J Q b n (AB L d undef) ds (.inRegion ops rest::k) cs (mk E H (B.set pl (bk,.cells (A9 c off v.cells.toList) e (0,0))))):
  JL J Q b n L ds (.inRegion ops (i::rest)::k) cs (mk E H B):=
 JL.op O hw U λρ K=>by
  show lp P (do Instr.storeAt t (ρ x) (ρ y);pure Next.skip) _ _ _
  rw [K x _ Z,K y _ ac]
  refine Ay _ _ ?_
  unfold Instr.storeAt
  simp only [Instr.sureAddr,bind,Sem.bind,pure]
  exact Qs ag al Y am hle λap=>h ap
end
def F4(P:Program)(t:TypeId):Option Nat:=(P.info? t).map (·.bytes)
section
variable {b:Frame}{n:Nat}
variable {i:Nat}{x:Operand}{v:Value}
theorem K7{inf:TypeInfo}{Q:TypeInfo->St->Prop}{X:Halt->St->Prop}(h:P.info? t=some inf)(k:Q inf s):lp P (typeInfo t) s Q X:=by
 simp only [typeInfo,bind,Sem.bind,program,lp,h];exact k
theorem QM{K:Nat}(h:F4 P t=some K):∃inf,P.info? t=some inf/\inf.bytes=K:=by
 unfold F4 at h;cases hi:P.info? t with
 | none=>rw [hi] at h;cases h
 | some i=>rw [hi] at h;simp at h;exact⟨i,rfl,h⟩
theorem JZ{β:Type}{z y:Nat}{code:BoundsCode}{f:Nat->Sem β}{K:β->St->Prop}{X:Halt->St->Prop}(Y:z<=y)(O:lp P (f z) s K X):lp P (Instr.sliceBound (.int .i64 z) y code>>=f) s K X:=by
 refine Ay _ _ ?_;unfold Instr.sliceBound;have U:(0:Int)<=(z:Int)/\(z:Int)<=(y:Int):=⟨by omega,by omega⟩;simp only [asIntOf,bind,Sem.bind,pure];rw [if_pos U];simpa [lp] using O
theorem IG{α β:Type}(a:α)(f:α->Sem β):((pure a:Sem α)>>=f)=f a:=rfl
theorem jk{l c:Nat}{X:Halt->St->Prop}:lp P (Instr.sliceBounds true l c none none none) s (λr s'=>r=(0,l,c)/\s'=s) X:=by
 unfold Instr.sliceBounds;exact⟨V,V⟩
theorem jh{l c:Nat}{lo:Nat}(K:lo<=l){X:Halt->St->Prop}:lp P (Instr.sliceBounds true l c (some (.int .i64 lo)) none none) s (λr s'=>r=(lo,l,c)/\s'=s) X:=by
 simp only [Instr.sliceBounds,if_true,Option.isSome_none,Option.isSome_some,Bool.false_eq_true,if_false,IG];exact JZ K ⟨V,V⟩
theorem iv{l c:Nat}{hi:Nat}(hh:hi<=c){X:Halt->St->Prop}:lp P (Instr.sliceBounds true l c none (some (.int .i64 hi)) none) s (λr s'=>r=(0,hi,c)/\s'=s) X:=by
 simp only [Instr.sliceBounds,if_true,Option.isSome_none,Option.isSome_some,Bool.false_eq_true,if_false,IG];exact JZ hh ⟨V,V⟩
theorem jl{l c:Nat}{lo hi:Nat}(hh:hi<=c)(K:lo<=hi){X:Halt->St->Prop}:lp P (Instr.sliceBounds true l c (some (.int .i64 lo)) (some (.int .i64 hi)) none) s (λr s'=>r=(lo,hi,c)/\s'=s) X:=by
 have e:Instr.sliceBounds true l c (some (.int .i64 lo)) (some (.int .i64 hi)) none=(Instr.sliceBound (.int .i64 hi) c .sliceAcap>>=λh=>Instr.sliceBound (.int .i64 lo) h .sliceB>>=λl=>pure (l,h,c)):=by
  simp [Instr.sliceBounds]
 rw [e];exact JZ hh (JZ K ⟨V,V⟩)
theorem iK{l c:Nat}{hi mx:Nat}(hm:mx<=c)(hh:hi<=mx){X:Halt->St->Prop}:lp P (Instr.sliceBounds true l c none (some (.int .i64 hi)) (some (.int .i64 mx))) s (λr s'=>r=(0,hi,mx)/\s'=s) X:=by
 simp only [Instr.sliceBounds,if_true,Option.isSome_none,Option.isSome_some,Bool.false_eq_true,if_false,IG];exact JZ hm (JZ hh ⟨V,V⟩)
theorem jm{l c:Nat}{lo hi mx:Nat}(hm:mx<=c)(hh:hi<=mx)(K:lo<=hi){X:Halt->St->Prop}:lp P (Instr.sliceBounds true l c (some (.int .i64 lo)) (some (.int .i64 hi)) (some (.int .i64 mx))) s (λr s'=>r=(lo,hi,mx)/\s'=s) X:=by
 simp only [Instr.sliceBounds,if_true,Option.isSome_none,Option.isSome_some,Bool.false_eq_true,if_false,IG];exact JZ hm (JZ hh (JZ K ⟨V,V⟩))
theorem Yu{l c lo hi mx:Nat}{Y Z ac:Option Value}{X:Halt->St->Prop}
  (O:match ac with | some w=>w= .int .i64 mx | none=>mx=c) (K:match Z with | some w=>w= .int .i64 hi | none=>hi=l/\ac=none) (U:match Y with | some w=>w= .int .i64 lo | none=>lo=0) (hm:mx<=c) (hh:hi<=mx) (ag:lo<=hi):
  lp P (Instr.sliceBounds true l c Y Z ac) s (λr s'=>r=(lo,hi,mx)/\s'=s) X:=by
 cases ac with
 | none=>
  cases Z with
  | none=>
   cases Y with
   | none=>obtain rfl:mx=c:=O;obtain rfl:hi=l:=K.1;obtain rfl:lo=0:=U;exact jk
   | some w=>obtain rfl:mx=c:=O;obtain rfl:hi=l:=K.1;obtain rfl:w= .int .i64 lo:=U;exact jh ag
  | some w=>
   cases Y with
   | none=>obtain rfl:mx=c:=O;obtain rfl:w= .int .i64 hi:=K;obtain rfl:lo=0:=U;exact iv hh
   | some w'=>obtain rfl:mx=c:=O;obtain rfl:w= .int .i64 hi:=K;obtain rfl:w'= .int .i64 lo:=U;exact jl hh ag
 | some w0=>
  cases Z with
  | none=>exact absurd K.2 (λh=>by cases h)
  | some w=>
   cases Y with
   | none=>obtain rfl:w0= .int .i64 mx:=O;obtain rfl:w= .int .i64 hi:=K;obtain rfl:lo=0:=U;exact iK hm hh
   | some w'=>obtain rfl:w0= .int .i64 mx:=O;obtain rfl:w= .int .i64 hi:=K;obtain rfl:w'= .int .i64 lo:=U;exact jm hm hh ag
theorem au{a:Option Addr}{l c O lo hi mx:Nat}{U Y K:Option Value}{Q:Value->St->Prop}{X:Halt->St->Prop}(Z:P.underlying t=some (.slice e))(ac:By P e=some O)
  (ag:match K with | some w=>w= .int .i64 mx | none=>mx=c) (al:match Y with | some w=>w= .int .i64 hi | none=>hi=l/\K=none) (am:match U with | some w=>w= .int .i64 lo | none=>lo=0) (hm:mx<=c) (hh:hi<=mx) (ap:lo<=hi)
  (k:Q (.slice (if mx=lo then a else a.map (·.add (lo*O))) (hi - lo) (mx - lo)) s):lp P (Instr.slice t (.slice a l c) U Y K) s Q X:=by
 unfold Instr.slice;refine Ay _ _ (Cx Z ?_);have hb:=Yu (P:=P) (s:=s) (X:=X) ag al am hm hh ap;refine Ay _ _ (Er _ hb ?_ (λ_ _ h=>h));rintro r s' ⟨rfl,rfl⟩;exact Ay _ _ (Fh ac k)
theorem Yl.slice{ρ:Operand->Value}{a:Option Addr}{l c O lo hi mx:Nat}{olo ohi omx:Option Operand}(U:P.underlying t=some (.slice e))(Y:By P e=some O)(Z:ρ x= .slice a l c)
  (ac:match omx with | some w=>ρ w= .int .i64 mx | none=>mx=c) (K:match ohi with | some w=>ρ w= .int .i64 hi | none=>hi=l/\omx=none) (ag:match olo with | some w=>ρ w= .int .i64 lo | none=>lo=0) (hm:mx<=c) (hh:hi<=mx) (al:lo<=hi):
  Yl P ⟨d,.slice t x olo ohi omx,ty,p,af,g⟩ ρ s (.slice (if mx=lo then a else a.map (·.add (lo*O))) (hi - lo) (mx - lo)):=
 FM (sm:=Instr.sliceAt t (ρ x) (olo.map ρ) (ohi.map ρ) (omx.map ρ)) V (by
  rw [Z];unfold Instr.sliceAt
  refine Ay _ _ (Cx U ?_)
  refine au U Y (mx:=mx) (hi:=hi) (lo:=lo) ?_ ?_ ?_ hm hh al ⟨rfl,rfl⟩
  .cases omx <;> exact ac
  .cases ohi with
   | none=>exact⟨K.1,by rw [K.2];rfl⟩
   | some w=>exact K
  .cases olo <;> exact ag)
def Im(s:St)(v:Value)(K:Nat)(xs:Lv_):Prop:=
 match v with
 | .slice (some a) l c=>(a.spot=none∨l=0)/\xs.length=l*K/\l<=c/\∀j w,xs[j]? =some w->s.cell? ⟨a.block,a.off+j,none⟩=some w
 | .slice none l _=>l=0/\xs= []
 | _=>False
theorem Ek{a:Addr}(h:a.spot=none)(j:Nat):a.add j=⟨a.block,a.off+j,none⟩:=by
 unfold Addr.add;obtain⟨b,o,sp⟩:=a;simp only at h;subst h;split
 .rename_i e;subst e;rfl
 .rfl
theorem K5{Y l:Nat}{xs:Lv_}{Q:Av_->St->Prop}{X:Halt->St->Prop}(Z:∃a c,v= .slice a l c)(h:Im s v Y xs)(k:Q xs.toArray s):lp P (Builtin.firstCells Y l v) s Q X:=by
 obtain⟨a,c,rfl⟩:=Z;cases a with
 | none=>
  obtain⟨K,rfl⟩:=h;exact k
 | some a=>
  obtain⟨K,O,ag,ac⟩:=h;refine SZ O.symm (λj w U=>?_) k;rcases K with K | K
  .rw [Ek K];exact ac j w U
  .rw [K,Nat.zero_mul] at O;rw [List.eq_nil_of_length_eq_zero O] at U;cases U
theorem Za(nl:Nat):∀(r c:Nat),Builtin.growBy nl r c<=max c (2*nl+768):=by
 intro r
 induction r with
 | zero=>intro c;simp [Builtin.growBy];omega
 | succ r K=>
  intro c;simp only [Builtin.growBy];split
  .omega
  .rename_i h;have:=K (c+(c+768) / 4);omega
theorem Tq{need old:Nat}(h:old<need):Builtin.nextslicecap need old<=2*need+768:=by
 unfold Builtin.nextslicecap;split
 .omega
 .split
  .omega
  .have:=Za need 4 old;omega
theorem SJ(z:Av_)(m:Nat):(Builtin.zeroCells z m).size=m*z.size:=by simp [Builtin.zeroCells]
def PM(B:List (Nat×Obj))(pl:Nat)(e:TypeId)(K:Nat)(a:Option Addr)(l c:Nat)(xs:Lv_):Prop:=
 (a=none/\l=0/\c=0/\xs= [])∨∃bk f,a=some ⟨bk,0,none⟩/\B[pl]? =some (bk,.cells f e (0,0))/\f.size=c*K/\l<=c/\xs=f.toList.take (l*K)
theorem Qq(c:Av_)(off:Nat)(vs:Lv_)(h:off+vs.length<=c.size):(A9 c off vs).toList.take (off+vs.length)=c.toList.take off++vs:=by
 induction vs generalizing c off with
 | nil=>simp [A9]
 | cons v vs O=>
  simp only [A9,List.length_cons] at*;have:=O (c.setIfInBounds off v) (off+1) (by simp;omega);rw [show off+(vs.length+1)=off+1+vs.length from by omega,this];have K:off<c.toList.length:=by simp;omega
  rw [Array.toList_setIfInBounds,List.take_add_one];have U:(c.toList.set off v)[off]? =some v:=by simp at K;simp [K]
  rw [U];simp [List.take_set_of_le]
theorem QN{ats:Array TypeId}{a:Option Addr}{l c K Y m cx:Nat}{ax:Option Addr}{xs ys:Lv_}{z:Value}{Q:Value->St->Prop}{X:Halt->St->Prop}{pl:Nat}
  (a7:ats[0]? =some t) {t1 a8:TypeId} (a9:ats[1]? =some t1) (bb:P.underlying t1=some (.slice a8)) (be:P.underlying t=some (.slice e)) (bi:By P e=some K) (hb:F4 P e=some Y) (bn:zeroOf P e=some z) (bo:z.cells.size=K)
  (aq:Nd E H B) (av:PM B pl e K a l c xs)
  (am:Im (mk E H B) (.slice ax m cx) K ys) (bv:∀w∈ys,C5 w=true) (ca:0<Y) (cc:l+m<=2 ^ 40) (bw:Y<=64)
  (bx:∀bk f O,a=some ⟨bk,0,none⟩->B[pl]? =some (bk,.cells f e (0,0))->O=A9 f (l*K) ys->l+m<=c->O.size=c*K->O.toList.take ((l+m)*K)=xs++ys->Nd E H (B.set pl (bk,.cells O e (0,0)))->Q (.slice a (l+m) c) (mk E H (B.set pl (bk,.cells O e (0,0)))))
  (bz:a=none->m=0->Q (.slice none 0 0) (mk E H B))
  (b0:∀r O Z,l+m<=Z->O.size=Z*K->O.toList.take ((l+m)*K)=xs++ys->Nd E H (B++ [(r,.cells O e (0,0))])->Q (.slice (some ⟨r,0,none⟩) (l+m) Z) (mk E H (B++ [(r,.cells O e (0,0))]))):
  lp P (Builtin.append_ ats ty #[.slice a l c,.slice ax m cx]) (mk E H B) Q X:=by
 unfold Builtin.append_;simp only [a7,a9,List.getElem?_toArray,List.getElem?_cons_zero,List.getElem?_cons_succ];refine Ay _ _ (Cx be ?_);refine Ay _ _ (Fh bi ?_);refine Ay _ _ (Cx bb ?_);simp only [IG,Bool.false_eq_true,if_false,Builtin.lenOf,Bool.not_false,if_true];have ac:ys.length=m*K:=by
  cases ax with
  | none=>obtain⟨aw,ay⟩:=am;subst aw ay;simp
  | some ad=>exact am.2.1
 have az:∃(b1:Option Addr) (Z:Nat),Im (mk E H B) (.slice a l c) K xs/\b1=a/\Z=c:=by
  refine⟨a,c,?_,V,V⟩;rcases av with⟨rfl,rfl,rfl,rfl⟩ | ⟨bk,f,rfl,ag,U,al,rfl⟩
  .exact⟨V,V⟩
  .have hle:l*K<=f.size:=by rw [U];exact Nat.mul_le_mul_right _ al
   refine⟨.inl V,by simp [Nat.min_eq_left hle],al,λj w ap=>?_⟩;refine Um aq ag ?_;simp only [Nat.zero_add];rw [List.getElem?_take] at ap;split at ap
   .simpa using ap
   .cases ap
 obtain⟨_,_,az,_,_⟩:=az;have a0:xs.length=l*K:=by
  rcases av with⟨rfl,rfl,rfl,rfl⟩ | ⟨bk,f,rfl,ag,U,al,rfl⟩
  .simp
  .have hle:l*K<=f.size:=by rw [U];exact Nat.mul_le_mul_right _ al
   simp [Nat.min_eq_left hle]
 split
 .rename_i a5;refine Ay _ _ (K5 ⟨ax,cx,V⟩ am ?_);rcases av with⟨rfl,rfl,rfl,rfl⟩ | ⟨bk,f,rfl,ag,U,al,rfl⟩
  .obtain rfl:m=0:=by omega
   simp only;exact bz V V
  .simp only;have hle:l*K+ys.length<=f.size:=by rw [ac,U,← Nat.add_mul];exact Nat.mul_le_mul_right _ a5
   have b2:(Addr.add ⟨bk,0,none⟩ (l*K))=⟨bk,l*K,none⟩:=by rw [Ek rfl];simp
   rw [b2];refine Ay _ _ (Od (pl:=pl) ys.toArray.toList 0 f B (by simpa using bv) aq ag (by simpa using hle) (.inl V) λB' a6 a1=>?_);simp only [Nat.add_zero] at a6;subst a6;refine bx bk f _ V ag V a5 (by rw [MS,U]) ?_ a1;have:=Qq f (l*K) ys hle;rw [ac,← Nat.add_mul] at this;exact this
 .rename_i ce;have aw:¬(((l+m:Nat):Int)>IntKind.i64.max/\(False∨Y=0)):=by rintro⟨_,h | h⟩ <;> omega
  have ay:¬(Builtin.nextslicecap (l+m) c*Y>2 ^ 48):=by
   have:=Tq (need:=l+m) (old:=c) (by omega);have ci:Builtin.nextslicecap (l+m) c*Y<=(2*(l+m)+768)*64:=Nat.mul_le_mul this bw;omega
  obtain⟨inf,a2,a3⟩:=QM hb;refine Ay _ _ (K7 a2 ?_);rw [a3,if_neg aw];refine Ay _ _ (K7 a2 ?_);rw [a3,if_neg ay];refine Ay _ _ ?_;simp only [choose,lp,Question.forced,Bool.false_eq_true,if_false];refine⟨V,λb3=>?_⟩;generalize b4:(Question.appendCap (l+m) c e).cut b3=a4;have b5:l+m<=a4:=by rw [← b4];simp [Question.cut]
  refine Ay _ _ (K7 a2 ?_);rw [a3];have b6:∀{α:Type} {f:Unit->Sem α} {Q:α->St->Prop},lp P (f ()) (mk E H B) Q X->lp P (askRoom (a4*Y)>>=f) (mk E H B) Q X:=by
   intro α f Q U;refine Ay _ _ ?_;unfold askRoom;split
   .exact⟨.inl ⟨V,V⟩,U⟩
   .exact U
  refine b6 (Ay _ _ (K5 ⟨a,c,V⟩ az ?_));refine Ay _ _ (K5 ⟨ax,cx,V⟩ am ?_);refine Ay _ _ (H8 bn ?_);refine Ay _ _ (JX aq λr a1=>?_);refine b0 r _ a4 b5 ?_ ?_ a1
  .simp only [Array.size_append,List.size_toArray,SJ,bo,a0,ac];rw [← Nat.add_mul,← Nat.add_mul];congr 1;omega
  .simp only [Array.toList_append];rw [List.take_append_of_le_length (by simp [a0,ac,Nat.add_mul])];rw [List.take_of_length_le (by simp [a0,ac,Nat.add_mul])]
end
theorem P7{P:Program}{α:Type}(x:Sem α):∀{s:St} {Q:α->St->Prop} {X:Halt->St->Prop},lp P x s Q X->lp P x s (λa s'=>Q a s'/\s'.E=s.E/\s'.q=s.q) X:=by
 induction x with
 | pure a=>intro s Q X h;exact⟨h,rfl,rfl⟩
 | load m a k K=>intro s Q X h;obtain⟨O,v,U,Y⟩:=h;exact⟨O,v,U,K _ Y⟩
 | store m a v k K=>intro s Q X h;obtain⟨O,U,o,Y,ac,ag,al⟩:=h;exact⟨O,U,o,Y,ac,ag,K al⟩
 | new o k K=>intro s Q X h;exact⟨h.1,λr O U=>K _ (h.2 r O U)⟩
 | shape r k K=>intro s Q X h;obtain⟨o,O,U⟩:=h;exact⟨o,O,K _ U⟩
 | freeze a n k K=>intro s Q X h;exact h
 | frozen a k K=>intro s Q X h;obtain⟨o,O,U⟩:=h;exact⟨o,O,K _ U⟩
 | getObj r k K=>intro s Q X h;obtain⟨o,O,U,Y⟩:=h;exact⟨o,O,U,K _ Y⟩
 | setObj r o k K=>intro s Q X h;obtain⟨O,U,Y⟩:=h;exact⟨O,U,K Y⟩
 | choose q k K=>
  intro s Q X h;simp only [lp] at h ⊢;split
  .rename_i Z;rw [if_pos Z] at h;exact K _ h
  .rename_i Z;rw [if_neg Z] at h;exact⟨h.1,λt=>K _ (h.2 t)⟩
 | sys c k K=>intro s Q X h;exact h
 | program k K=>intro s Q X h;exact K _ h
 | mark m k K=>intro s Q X h;exact⟨h.1,K h.2⟩
 | halt h=>intro s Q X h;exact h
def Bz(D:Nat->Bool)(s:St):St:=⟨λb=>if D b then s.get b else s.E b,λb=>if D b then none else s.H b,s.q⟩
def Cy(D:Nat->Bool)(s s':St):St:=⟨λb=>if D b then s.E b else s'.E b,λb=>if D b then s.H b else s'.H b,s'.q⟩
theorem L3(D:Nat->Bool)(s:St):Cy D s (Bz D s)=s:=by
 obtain⟨E,H,q⟩:=s;unfold Cy Bz;congr 1
 .funext b;by_cases h:D b <;> simp [h]
 .funext b;by_cases h:D b <;> simp [h]
theorem ZK{D:Nat->Bool}{s:St}{w:World}(f:Fits s w):Fits (Bz D s) w where
 e b o h:=by
  by_cases hd:D b
  .simp [Bz,hd] at h;exact f.get h
  .simp [Bz,hd] at h;exact f.e b o h
 h b o h:=by
  by_cases hd:D b
  .simp [Bz,hd] at h
  .simp [Bz,hd] at h;exact f.h b o h
 d b h:=by
  by_cases hd:D b
  .simp [Bz,hd]
  .simp [Bz,hd] at h ⊢;exact f.d b h
def EW{P:Program}(J:Judge P)(f:FuncId)(args:Av_)(s:St)(R:Value->St->Prop):Prop:=
 ∀(Q:Gs_) (c:Frame) (cs:Lf_),(∀v s',R v s'->J.ok Q (G (c.finish v) cs) s')->J.ok Q (G (Frame.enter P f args .normal) (c::cs)) s
theorem EW.M{P:Program}{J:Judge P}{f:FuncId}{args:Av_}{s:St}{R K:Value->St->Prop}(h:EW J f args s R)(O:∀v s',R v s'->K v s'):EW J f args s K:=
 λQ c cs U=>h Q c cs λv s' Y=>U v s' (O v s' Y)
section
variable {b:Frame}{n:Nat}
theorem Judge.U0(D:Nat->Bool){T:Av_}{ops:Ao_}{i:Nat}{rest:List Nat}{o:Oper}(Y:ops[i]? =some o)(hw:Region.wanted o (yielded ops T)=true)(a6:b.kind≠ .early)
  (hd:∀c,o.op≠ .defer c) (a7:s.q=false)
  (h:lp P (execOp (BJ T) o) (Bz D s) (λap s'=>upon J Q b T ds ops i rest k cs o.dst ap (Cy D s s')) (λ_ _=>False)):
  J.ok Q (G (fr b T ds (.inRegion ops (i::rest)::k)) cs) s:=by
 refine J.step ⟨V,λw f=>?_,λe=>by subst e;cases a7⟩;have Z:((fr b T ds (.inRegion ops (i::rest)::k)).kind==CallKind.early)=false:=by simpa [fr] using a6
 have a8:stepG P J.main (G (fr b T ds (.inRegion ops (i::rest)::k)) cs) w=stepG.apply P true (fr b T ds (.inRegion ops (i::rest)::k)) cs none (execOp (BJ T) o) w:=by
  rw [stepG_op Y hw];split
  .rename_i l c bv e2;exact absurd e2 (hd c)
  .rfl
 obtain⟨ac,aq,av,a9,O⟩:=OB _ (P7 _ h) (ZK (D:=D) f);have aw:=Ri (P:=P) (fn:=b.fn) a9;have a1:=λv=>GW (b:=b) (ds:=ds) (k:=k) T ops i rest v o Y;have key:∀w',Fits ac w'->Fr (Bz D s) w ac w'->ac.E=(Bz D s).E->Fits (Cy D s ac) w'/\Fr s w (Cy D s ac) w':=by
  intro w' ay g2 bb;have a2:∀b,D b=true->b<w.heap.size->w'.heap[b]? =w.heap[b]? :=λb hb az=>g2.keep b az (by simp [Bz,hb]);have a3:∀b o,(s.H b=some o∨s.E b=some o)->b<w.heap.size:=λb o Y=>by
   have:=Y.elim (f.h b o) (f.e b o);rcases Nat.lt_or_ge b w.heap.size with a0 | a0
   .exact a0
   .simp [Array.getElem?_eq_none a0] at this
  refine⟨⟨λb o hb=>?_,λb o hb=>?_,λb hb=>?_⟩,⟨g2.size,λb az hb=>?_,λb hb=>?_,λb o hb=>?_,λb hb=>?_,g2.tape,g2.os,g2.output⟩⟩
  .by_cases K:D b
   .simp [Cy,K] at hb;rw [a2 b K (a3 b o (.inr hb))];exact f.e b o hb
   .simp [Cy,K] at hb;exact ay.e b o hb
  .by_cases K:D b
   .simp [Cy,K] at hb;rw [a2 b K (a3 b o (.inl hb))];exact f.h b o hb
   .simp [Cy,K] at hb;exact ay.h b o hb
  .by_cases K:D b
   .simp [Cy,K] at hb ⊢;exact f.d b hb
   .simp [Cy,K] at hb ⊢;exact ay.d b hb
  .exact g2.keep b az (by by_cases K:D b <;> simp [Bz,K,hb])
  .by_cases K:D b
   .simp [Cy,K] at hb;exact .inl hb
   .simp [Cy,K] at hb;rcases g2.own b hb with q | q
    .left;simpa [Bz,K] using q
    .exact .inr q
  .by_cases K:D b
   .simp [Cy,K];exact hb
   .simp only [Cy,K,Bool.false_eq_true,if_false];rw [bb];simp [Bz,K,hb]
  .by_cases K:D b
   .simp [Cy,K] at hb;exact .inl hb
   .simp [Cy,K] at hb;rcases g2.Fc b hb with q | q | q
    .left;simpa [Bz,K] using q
    .right;left;simpa [Bz,K] using q
    .exact .inr (.inr q)
 have be:∀w',(∀e∈seen P b.fn ((execOp (BJ T) o).events P w #[]),Ev (Bz D s) w w' e)->∀e∈seen P b.fn ((execOp (BJ T) o).events P w #[]),Ev s w w' e:=by
  intro w' he e hm;have:=he e hm;have a4:∀{b wr},He (Bz D s) w w' b wr->He s w w' b wr:=by
   intro b wr a5;refine⟨a5.1,?_⟩;rcases a5.2 with q | q | ⟨q,q'⟩
   .left;by_cases K:D b <;> simp [Bz,K] at q;exact q
   .exact .inr (.inl q)
   .by_cases K:D b
    .simp [Bz,K,St.get] at q;by_cases am:s.E b=none
     .left;intro bi;rw [am,bi] at q;exact q V
     .exact .inr (.inr ⟨am,q'⟩)
    .simp [Bz,K] at q;exact .inr (.inr ⟨q,q'⟩)
  unfold Ev at this ⊢;split <;> rename_i bn <;> simp only [bn] at this
  .exact⟨this.1,a4 this.2⟩
  .exact⟨this.1,a4 this.2⟩
  .trivial
  .trivial
 rw [a8];cases U:(execOp (BJ T) o).run P w with
 | ok ap w'=>
  rw [U] at aq av O aw;simp only [LJ] at aq av aw;obtain⟨O,am,_⟩:=O;obtain⟨k1,ag⟩:=key w' aq av am;have al:=be w' aw;cases ap with
  | value v=>exact⟨_,_,w',seen P b.fn ((execOp (BJ T) o).events P w #[])++ #[],by simp [stepG.apply,U,Z,GStep.after,G,a1,Gk],O,k1,ag,by simpa using al⟩
  | skip=>exact⟨_,_,w',seen P b.fn ((execOp (BJ T) o).events P w #[])++ #[],by simp [stepG.apply,U,Z,GStep.after,G,a1,Gk],O,k1,ag,by simpa using al⟩
  | enter g args=>exact⟨_,_,w',seen P b.fn ((execOp (BJ T) o).events P w #[])++ #[],by simp [stepG.apply,U,Z,GStep.after,G,Gk,IQ],O,k1,ag,by simpa using al⟩
  | round l g tm as bw=>exact⟨_,_,w',seen P b.fn ((execOp (BJ T) o).events P w #[])++ #[],by simp [stepG.apply,U,Z,GStep.after,G,Gk,IQ],O,k1,ag,by simpa using al⟩
  | defer d=>
   have bo:=GW (b:=b) (ds:=d::ds) (k:=k) T ops i rest undef o Y;exact⟨_,_,w',seen P b.fn ((execOp (BJ T) o).events P w #[])++ #[],by
    rw [← bo];simp [stepG.apply,U,Z,GStep.after,G,Gk,IQ];rfl,O,k1,ag,by simpa using al⟩
  | _=>exact O.elim
 | halt x w'=>rw [U] at O;exact O.elim
end
def R4(m:Nat)(listed:Array Bool):Bool:=(List.range m).all λi=>listed.getD i false
def Bm(listed:Array Bool)(i:Nat):Array Bool:=listed.setIfInBounds i true
section
variable (J:Judge P)(Q:Gs_)(b:Frame)(ds:Ld_)(ops:Ao_)(k:Li_)(cs:Lf_)(m:Nat)(D:Nat->Bool)
def JA:Nat->Array Bool->Av_->St->Prop
 | 0,listed,T,s=>Region.ready .any ops listed= []/\J.ok Q (G (fr b T ds (.inRegion ops []::k)) cs) s
 | fuel+1,listed,T,s=>
  (R4 m listed=true/\∀t,J.ok Q (G (fr b T ds (.inRegion ops (Region.linearise.go .any ops (fuel+1) t listed [])::k)) cs) s)∨
  (Region.ready .any ops listed≠ []/\s.q=false/\∀i∈Region.ready .any ops listed,∀o,ops[i]? =some o->(∀c,o.op≠ .defer c)/\
   (Region.wanted o (yielded ops T)=false->JA fuel (Bm listed i) (CU T o.dst undef) s)/\
   (Region.wanted o (yielded ops T)=true->lp P (execOp (BJ T) o) (Bz D s) (λO s'=>match O with
    | .value v=>JA fuel (Bm listed i) (CU T o.dst v) (Cy D s s')
    | .skip=>JA fuel (Bm listed i) (CU T o.dst undef) (Cy D s s')
    | .enter f args=>∃R,EW J f args (Cy D s s') R/\∀v K,R v K->K.q=false/\(∀x o,(Bz D s).E x=some o->(Bz D K).E x=some o)/\JA fuel (Bm listed i) (CU T o.dst v) K
    | _=>False) (λ_ _=>False)))
variable {J Q b ds ops k cs m D}
theorem aK(Z:b.kind≠ .early):∀(fuel t:Nat) (listed:Array Bool) (T:Av_) (s:St),JA J Q b ds ops k cs m D fuel listed T s->
  J.ok Q (G (fr b T ds (.inRegion ops (Region.linearise.go .any ops fuel t listed [])::k)) cs) s:=by
 intro fuel
 induction fuel with
 | zero=>intro t listed T s h;simpa [Region.linearise.go] using h.2
 | succ fuel K=>
  intro t listed T s h;rcases h with⟨_,h⟩ | ⟨ac,ag,h⟩
  .exact h t
  .obtain⟨i,hi⟩:∃i,(Region.ready .any ops listed)[t % (Region.ready .any ops listed).length]? =some i:=by
    have:0<(Region.ready .any ops listed).length:=List.length_pos_iff.2 ac;exact⟨_,List.getElem?_eq_getElem (Nat.mod_lt _ this)⟩
   have Y:=List.mem_of_getElem? hi;have hgo:Region.linearise.go .any ops (fuel+1) t listed []=i::Region.linearise.go .any ops fuel (t / (Region.ready .any ops listed).length) (Bm listed i) []:=by
    simp only [Region.linearise.go];change (match(Region.ready .any ops listed)[t % (Region.ready .any ops listed).length]? with
     | some i=>Region.linearise.go .any ops fuel (t / (Region.ready .any ops listed).length) (listed.setIfInBounds i true) [i]
     | none=> [].reverse)=_
    rw [hi];simp only;rw [linearise_go_acc];rfl
   rw [hgo];obtain⟨_,o,O,_⟩:=mem_ready.1 Y;obtain⟨hd,al,am⟩:=h i Y o O;cases hw:Region.wanted o (yielded ops T) with
   | false=>exact Judge.unwanted O hw (K _ _ _ _ (al hw))
   | true=>
    refine Judge.U0 D O hw Z hd ag (Er _ (am hw) ?_ (λ_ _ h=>h));intro ap s' U;cases ap with
    | value v=>exact K _ _ _ _ U
    | skip=>exact K _ _ _ _ U
    | enter f args=>
     obtain⟨R,aq,av⟩:=U;refine aq Q _ cs λv aw ay=>?_;rw [GW _ _ _ _ _ _ O];exact K _ _ _ _ (av v aw ay).2.2
    | _=>exact U.elim
theorem cC{T:Av_}{d:Option Tmp}{v:Value}{x:Operand}(h:∀t,d=some t->x≠ .tmp t):BJ (CU T d v) x=BJ T x:=by
 cases d with
 | none=>rfl
 | some t=>
  cases x with
  | tmp u=>
   have K:t≠u:=λe=>h t rfl (e▸rfl);simp only [CU,BJ,Array.getD_eq_getD_getElem?,Array.getElem?_setIfInBounds_ne K]
  | _=>rfl
theorem IJ{T:Av_}{d:Option Tmp}{v:Value}{o:Oper}(K:∀cs b,o.op≠ .select cs b)(h:∀t,d=some t->t ∉ o.looksAt ops):
  execOp (BJ (CU T d v)) o=execOp (BJ T) o/\Region.wanted o (yielded ops (CU T d v))=Region.wanted o (yielded ops T):=by
 refine⟨execOp_congr o K λx O=>cC λt U Y=>h t U ?_,?_⟩
 .subst Y;exact List.mem_append_left _ (List.mem_filterMap.2 ⟨.tmp t,by simpa using O,V⟩)
 .have:=wanted_put (ops:=ops) o (⟨T,[]⟩:Act) d v h
  rwa [act_put'] at this
 where
  act_put' {T : Av_} {d : Option Tmp} {v : Value} : (⟨T, []⟩ : Act).put d v = ⟨CU T d v, []⟩ := by cases d <;> rfl
theorem JW{T:Av_}{d e:Option Tmp}{v u:Value}(h:∀t,d=some t->e≠some t):CU (CU T d v) e u=CU (CU T e u) d v:=by
 cases d with
 | none=>rfl
 | some t=>
  cases e with
  | none=>rfl
  | some K=>
   have O:t≠K:=λq=>h t rfl (q▸rfl);simp [CU,Array.setIfInBounds_comm _ _ O]
theorem S9{D:Nat->Bool}{s s':St}(K:s'.E=(Bz D s).E):(Bz D (Cy D s s')).E=(Bz D s).E:=by
 funext x;by_cases h:D x
 .simp [Bz,Cy,h,St.get]
 .have:=congrFun K x;simp [Bz,h] at this;simp [Bz,Cy,h,this]
def Jt(ops:Ao_)(listed:Array Bool)(i:Nat)(oi:Oper):Bool:=
 (List.range ops.size).all λj=>j==i || listed.getD j true || match ops[j]? with
  | some K=>(K.after.any λe=>Region.binds .any e&&e.on==i) || oi.apart ops K
  | none=>true
def waits(ops:Ao_):Nat->Nat->Nat->Bool
 | 0,_,_=>false
 | f+1,j,i=>match ops[j]? with
  | some K=>K.after.any λe=>Region.binds .any e&&(e.on==i || waits ops f e.on i)
  | none=>true
def Es(ops:Ao_)(m:Nat):Bool:=
 (List.range ops.size).all λj=>decide (j<m) || (List.range m).all λi=>waits ops ops.size j i
def Ik(ops:Ao_)(listed:Array Bool):Bool:=
 (List.range ops.size).all λj=> !listed.getD j false || match ops[j]? with
  | some K=>K.after.all λe=> !Region.binds .any e || listed.getD e.on false
  | none=>true
theorem Qt{listed:Array Bool}(h:Ik ops listed=true){j:Nat}{K:Oper}(O:ops[j]? =some K)(U:listed.getD j false=true):∀e∈K.after,Region.binds .any e=true->listed.getD e.on false=true:=by
 intro e he hb;have:=List.all_eq_true.1 h j (List.mem_range.2 (Array.getElem?_eq_some_iff.1 O).1);rw [U,O] at this;simp only [Bool.not_true,Bool.false_or] at this;have:=Array.all_eq_true'.1 this e he;rw [hb] at this;simpa using this
theorem SV{listed:Array Bool}(Z:Ik ops listed=true){i:Nat}:∀(f j:Nat) (O:Oper),ops[j]? =some O->(∀e∈O.after,Region.binds .any e=true->listed.getD e.on false=true)->waits ops f j i=true->listed.getD i false=true∨∃x,ops[x]? =none/\listed.getD x false=true:=by
 intro f
 induction f with
 | zero=>intro j O _ _ h;cases h
 | succ f ac=>
  intro j O ag hd h;simp only [waits,ag] at h;obtain⟨e,he,K⟩:=Array.any_eq_true'.1 h;simp only [Bool.and_eq_true,Bool.or_eq_true,beq_iff_eq] at K;obtain⟨hb,K⟩:=K;have U:=hd e he hb;rcases K with rfl | K
  .exact .inl U
  .cases Y:ops[e.on]? with
   | none=>exact .inr ⟨_,Y,U⟩
   | some o=>exact ac e.on o Y (λal am ap=>Qt Z Y U al am ap) K
theorem JA.take{i:Nat}{oi:Oper}{w:Bool}{v:Value}(hi:ops[i]? =some oi)(cp:i<m)(ct:Es ops m=true)(cw:Region.noSelect ops=true)(cy:∀c,oi.op≠ .defer c):
  ∀(fuel:Nat) (listed:Array Bool) (T:Av_) (s:St),Jt ops listed i oi=true->Ik ops listed=true->listed.size=ops.size->i∈Region.ready .any ops listed->s.q=false->Region.wanted oi (yielded ops T)=w->
   (w=true->∀s',s'.q=false->(∀x o,(Bz D s).E x=some o->s'.E x=some o)->Yl P oi (BJ T) s' v)->
   JA J Q b ds ops k cs m D fuel (Bm listed i) (CU T oi.dst (if w then v else undef)) s->JA J Q b ds ops k cs m D (fuel+1) listed T s:=by
 have av:∀(j:Nat) (ag:Oper),ops[j]? =some ag->∀cs b,ag.op≠Op.select cs b:=λj ag h cs b=>Region.noSelect_spec cw j ag cs b h;intro fuel
 induction fuel with
 | zero=>?_
 | succ fuel a2=>?_
 all_goals
  intro listed T s b1 b2 aw a3 a4 hw ay h;refine .inr ⟨λe=>(by rw [e] at a3;cases a3),a4,λj b3 ag O=>?_⟩;by_cases aq:j=i
  .subst aq;obtain rfl:ag=oi:=by rw [hi] at O;exact(Option.some.inj O).symm
   refine⟨cy,λbi=>?_,λbn=>?_⟩
   .rw [bi] at hw;subst hw;exact h
   .rw [bn] at hw;subst hw;refine Er _ (ay V (Bz D s) a4 λ_ _ h=>h).out ?_ (λ_ _ h=>h);rintro b4 s' ⟨rfl,rfl⟩;rw [L3];exact h
  ·
   have b5:j∈Region.ready .any ops (Bm listed i):=ready_mono b3 aq;obtain⟨al,U,b6,bo⟩:=mem_ready.1 b3;obtain rfl:U=ag:=by rw [O] at b6;exact(Option.some.inj b6).symm
   have bv:=(mem_ready.1 a3).1;have c0:(U.after.any λe=>Region.binds .any e&&e.on==i)=false:=by
    rw [Array.any_eq_false];intro e he K;simp only [Bool.and_eq_true,beq_iff_eq] at K;have:=bo _ (Array.getElem_mem he) K.1;rw [K.2] at this;have Y:listed.getD i true=listed.getD i false∨listed.size<=i:=by
     rcases Nat.lt_or_ge i listed.size with q | q
     .left;simp [Array.getD_eq_getD_getElem?,q]
     .exact .inr q
    rcases Y with Y | Y
    .rw [bv,this] at Y;cases Y
    .rw [Array.getD_eq_getD_getElem?,Array.getElem?_eq_none Y] at this;simp at this
   have c1:oi.apart ops U=true:=by
    have az:j<ops.size:=(Array.getElem?_eq_some_iff.1 O).1;have:=List.all_eq_true.1 b1 j (List.mem_range.2 az);simp only [Bool.or_eq_true,beq_iff_eq] at this;rcases this with(q | q) | q
    .exact absurd q aq
    .rw [al] at q;cases q
    .rw [O] at q;simp only [Bool.or_eq_true] at q;rw [c0] at q;exact q.resolve_left (by simp)
   obtain⟨a1,a5,a6⟩:=Oper.apart_spec c1;obtain⟨p1,p2⟩:=IJ (ops:=ops) (T:=T) (v:=if w then v else undef) (av j U O) a1
   first
    | exact absurd b5 (by rw [h.1];simp)
    | (
     rcases h with⟨c2,_⟩ | ⟨ed,_,h⟩
     ·
      exfalso
      have c3:¬j<m:=by
       intro az
       have:=List.all_eq_true.1 c2 j (List.mem_range.2 az)
       have e2:(Bm listed i).getD j false=listed.getD j false:=getD_set_ne false (Ne.symm aq)
       rw [e2] at this
       have Y:listed.getD j true=true:=by
        rcases Nat.lt_or_ge j listed.size with q | q
        .simp [Array.getD_eq_getD_getElem?,q] at this ⊢;exact this
        .simp [Array.getD_eq_getD_getElem?,Array.getElem?_eq_none q] at this
       rw [al] at Y;cases Y
      have az:j<ops.size:=(Array.getElem?_eq_some_iff.1 O).1
      have:=List.all_eq_true.1 ct j (List.mem_range.2 az)
      simp only [Bool.or_eq_true,decide_eq_true_eq] at this
      have:=List.all_eq_true.1 (this.resolve_left c3) i (List.mem_range.2 cp)
      rcases SV b2 _ j U O (λe he hb=>bo e he hb) this with q | ⟨x,Z,ac⟩
      .have c4:i<listed.size:=by rw [aw];exact(Array.getElem?_eq_some_iff.1 hi).1
       simp [Array.getD_eq_getD_getElem?,c4] at q bv
       rw [bv] at q;cases q
      .have:¬x<listed.size:=by rw [aw];intro K;simp [K] at Z
       simp [Array.getD_eq_getD_getElem?,this] at ac
     .obtain⟨hd,bi,bn⟩:=h j b5 U O
      have a7:Bm (Bm listed i) j=Bm (Bm listed j) i:=by
       unfold Bm;exact Array.setIfInBounds_comm _ _ (Ne.symm aq)
      have a8:i∈Region.ready .any ops (Bm listed j):=ready_mono a3 (Ne.symm aq)
      have a9:Jt ops (Bm listed j) i oi=true:=by
       refine List.all_eq_true.2 λx K=>?_
       have:=List.all_eq_true.1 b1 x K
       simp only [Bool.or_eq_true,beq_iff_eq] at this ⊢
       rcases this with(q | q) | q
       .exact .inl (.inl q)
       .left;right
        by_cases e:j=x
        .subst e;rw [al] at q;cases q
        .rw [Bm,getD_set_ne true e];exact q
       .exact .inr q
      have bb:(Bm listed j).size=ops.size:=by unfold Bm;simpa using aw
      have be:Ik ops (Bm listed j)=true:=by
       refine List.all_eq_true.2 λx K=>?_
       cases bw:ops[x]? with
       | none=>simp
       | some c5=>
        simp only [Bool.or_eq_true,Bool.not_eq_true']
        by_cases e:j=x
        .subst e
         obtain rfl:c5=U:=by rw [O] at bw;exact(Option.some.inj bw).symm
         right
         refine Array.all_eq_true'.2 λe he=>?_
         cases hb:Region.binds .any e with
         | false=>simp
         | true=>
          have:=bo e he hb
          by_cases e2:j=e.on
          .rw [← e2] at this
           have bx:j<listed.size:=by rw [aw];exact(Array.getElem?_eq_some_iff.1 O).1
           simp [Array.getD_eq_getD_getElem?,bx] at this al
           rw [al] at this;cases this
          .rw [Bm,getD_set_ne false e2];simpa using this
        .cases ca:(Bm listed j).getD x false with
         | false=>exact .inl rfl
         | true=>
          right
          have c6:listed.getD x false=true:=by rw [Bm,getD_set_ne false e] at ca;exact ca
          refine Array.all_eq_true'.2 λbz he=>?_
          cases hb:Region.binds .any bz with
          | false=>simp
          | true=>
           have:=Qt b2 bw c6 bz he hb
           by_cases e2:j=bz.on
           .rw [← e2] at this
            have bx:j<listed.size:=by rw [aw];exact(Array.getElem?_eq_some_iff.1 O).1
            simp [Array.getD_eq_getD_getElem?,bx] at this al
            rw [al] at this;cases this
           .rw [Bm,getD_set_ne false e2];simpa using this
      refine⟨hd,λc7=>?_,λc8=>?_⟩
      .have:=bi (by rw [p2];exact c7)
       rw [a7,JW a5] at this
       obtain⟨Z,ac⟩:=IJ (ops:=ops) (T:=T) (d:=U.dst) (v:=undef) (o:=oi) (av i oi hi) a6
       exact a2 _ _ _ a9 be bb a8 a4 (by rw [ac];exact hw) (λam s' c9 b0=>by unfold Yl;rw [Z];exact(ay am s' c9 b0).out) this
      .have cc:=P7 _ (bn (by rw [p2];exact c8))
       rw [p1] at cc
       refine Er _ cc ?_ (λ_ _ h=>h)
       rintro b4 s' ⟨K,b0,dd⟩
       have ce:=S9 (D:=D) b0
       have ci:(Cy D s s').q=false:=by show s'.q=false;rw [dd];exact a4
       cases b4 with
       | value u=>
        simp only at K ⊢
        rw [a7,JW a5] at K
        obtain⟨Z,ac⟩:=IJ (ops:=ops) (T:=T) (d:=U.dst) (v:=u) (o:=oi) (av i oi hi) a6
        exact a2 _ _ _ a9 be bb a8 ci (by rw [ac];exact hw) (λam s2 a0 ap=>by unfold Yl;rw [Z];exact(ay am s2 a0 (by rw [ce] at ap;exact ap)).out) K
       | skip=>
        simp only at K ⊢
        rw [a7,JW a5] at K
        obtain⟨Z,ac⟩:=IJ (ops:=ops) (T:=T) (d:=U.dst) (v:=undef) (o:=oi) (av i oi hi) a6
        exact a2 _ _ _ a9 be bb a8 ci (by rw [ac];exact hw) (λam s2 a0 ap=>by unfold Yl;rw [Z];exact(ay am s2 a0 (by rw [ce] at ap;exact ap)).out) K
       | enter f args=>
        obtain⟨R,ea,eb⟩:=K
        refine⟨R,ea,λu ec hu=>?_⟩
        obtain⟨co,r1,r2⟩:=eb u ec hu
        refine⟨co,r1,?_⟩
        rw [a7,JW a5] at r2
        obtain⟨Z,ac⟩:=IJ (ops:=ops) (T:=T) (d:=U.dst) (v:=u) (o:=oi) (av i oi hi) a6
        exact a2 _ _ _ a9 be bb a8 co (by rw [ac];exact hw) (λam s2 a0 ap=>by unfold Yl;rw [Z];exact(ay am s2 a0 (λx o K=>ap x o (r1 x o K))).out) r2
       | _=>exact K.elim)
end
section
variable (J:Judge P)(Q:Gs_)(b:Frame)(n:Nat)(ds:Ld_)(ops:Ao_)(k:Li_)(cs:Lf_)(m:Nat)(D:Nat->Bool)
def AZ(fuel:Nat)(listed:Array Bool)(L:Env)(s:St):Prop:=∀T,Has n L T->JA J Q b ds ops k cs m D fuel listed T s
end
def DR:Nat->Bool:=λ_=>false
variable {D:Nat->Bool}{listed:Array Bool}
section
variable {b:Frame}{n:Nat}{m fuel:Nat}
theorem QY(m:Nat)(D:Nat->Bool){id:Nat}(K:s.q=false)(hm:P.follows .mixedOrders=true)(O:(b.kind != .early)=true)(h:AZ J Q b n ds ops k cs m D ops.size (Array.replicate ops.size false) L s):JL J Q b n L ds (.code (.region id ops true)::k) cs s:=
 UX K hm λt T U=>aK (by simpa using O) ops.size t _ T s (h T U)
theorem ZA{i:Nat}{oi:Oper}{v:Value}(hi:ops[i]? =some oi)(U:decide (i<m)=true)(Y:Es ops m=true)(Z:Region.noSelect ops=true)(O:(!Ey oi.op)=true)(ac:Jt ops listed i oi=true)(ag:Ik ops listed=true)(al:(listed.size==ops.size)=true)(am:(Region.ready .any ops listed).contains i=true)(ap:s.q=false)
  (hw:AY L ops oi=some true) (aq:Bu n oi.dst=true) (av:∀ρ,Fa L ρ->∀s',s'.q=false->(∀x o,(Bz D s).E x=some o->s'.E x=some o)->Yl P oi ρ s' v)
  (h:AZ J Q b n ds ops k cs m D fuel (Bm listed i) (AB L oi.dst v) s):AZ J Q b n ds ops k cs m D (fuel+1) listed L s:=λT K=>by
 refine JA.take (w:=true) (v:=v) hi (by simpa using U) Y Z (λc aw=>by rw [aw] at O;simp [Ey] at O) fuel listed T s ac ag (by simpa using al) (by simpa using am) ap (Ci K hw) (λ_ s' ay az=>av _ K.Gn s' ay az) ?_
 exact h _ (K.put aq v)
theorem Yq{i:Nat}{oi:Oper}(hi:ops[i]? =some oi)(U:decide (i<m)=true)(Y:Es ops m=true)(Z:Region.noSelect ops=true)(K:(!Ey oi.op)=true)(ac:Jt ops listed i oi=true)(ag:Ik ops listed=true)(al:(listed.size==ops.size)=true)(am:(Region.ready .any ops listed).contains i=true)(ap:s.q=false)
  (hw:AY L ops oi=some false) (aq:Bu n oi.dst=true)
  (h:AZ J Q b n ds ops k cs m D fuel (Bm listed i) (AB L oi.dst undef) s):AZ J Q b n ds ops k cs m D (fuel+1) listed L s:=λT O=>by
 refine JA.take (w:=false) (v:=undef) hi (by simpa using U) Y Z (λc av=>by rw [av] at K;simp [Ey] at K) fuel listed T s ac ag (by simpa using al) (by simpa using am) ap (Ci O hw) (λe=>by cases e) ?_
 exact h _ (O.put aq undef)
theorem Uz(al:s.q=false)(am:Region.ready .any ops listed≠ [])
  (h:∀i∈Region.ready .any ops listed,∀o,ops[i]? =some o->(!Ey o.op)=true/\Bu n o.dst=true/\∃w,AY L ops o=some w/\
   (w=false->AZ J Q b n ds ops k cs m D fuel (Bm listed i) (AB L o.dst undef) s)/\
   (w=true->∀ρ,Fa L ρ->lp P (execOp ρ o) (Bz D s) (λac s'=>match ac with
    | .value v=>AZ J Q b n ds ops k cs m D fuel (Bm listed i) (AB L o.dst v) (Cy D s s')
    | .skip=>AZ J Q b n ds ops k cs m D fuel (Bm listed i) (AB L o.dst undef) (Cy D s s')
    | .enter f args=>∃R,EW J f args (Cy D s s') R/\∀v K,R v K->K.q=false/\(∀x o,(Bz D s).E x=some o->(Bz D K).E x=some o)/\AZ J Q b n ds ops k cs m D fuel (Bm listed i) (AB L o.dst v) K
    | _=>False) (λ_ _=>False))):
  AZ J Q b n ds ops k cs m D (fuel+1) listed L s:=λT O=>by
 refine .inr ⟨am,al,λi hi o ap=>?_⟩
 obtain⟨ag,U,w,hw,aq,av⟩:=h i hi o ap
 have Y:=Ci O hw
 refine⟨λc aw=>by rw [aw] at ag;simp [Ey] at ag,λe=>?_,λe=>?_⟩
 .rw [e] at Y
  exact aq Y.symm _ (O.put U undef)
 .rw [e] at Y;refine Er _ (av Y.symm _ O.Gn) ?_ (λ_ _ h=>h);intro ac s' Z;cases ac with
  | value v=>exact Z _ (O.put U v)
  | skip=>exact Z _ (O.put U undef)
  | enter f args=>
   obtain⟨R,ay,az⟩:=Z;exact⟨R,ay,λv K a0=>let ⟨a,b,c⟩:=az v K a0;⟨a,b,c _ (O.put U v)⟩⟩
  | _=>exact Z.elim
theorem AZ.one{i:Nat}{o:Oper}(ac:s.q=false)(Y:Region.ready .any ops listed= [i])(hi:ops[i]? =some o)(O:(!Ey o.op&&Bu n o.dst)=true)(hw:AY L ops o=some true)
  (h:∀ρ,Fa L ρ->lp P (execOp ρ o) (Bz D s) (λag s'=>match ag with
    | .value v=>AZ J Q b n ds ops k cs m D fuel (Bm listed i) (AB L o.dst v) (Cy D s s')
    | .skip=>AZ J Q b n ds ops k cs m D fuel (Bm listed i) (AB L o.dst undef) (Cy D s s')
    | .enter f args=>∃R,EW J f args (Cy D s s') R/\∀v K,R v K->K.q=false/\(∀x o,(Bz D s).E x=some o->(Bz D K).E x=some o)/\AZ J Q b n ds ops k cs m D fuel (Bm listed i) (AB L o.dst v) K
    | _=>False) (λ_ _=>False)):
  AZ J Q b n ds ops k cs m D (fuel+1) listed L s:=by
 simp only [Bool.and_eq_true] at O;refine Uz ac (by rw [Y];simp) λj U o' Z=>?_;rw [Y] at U;simp at U;subst U;obtain rfl:o'=o:=by rw [hi] at Z;exact(Option.some.inj Z).symm
 exact⟨O.1,O.2,true,hw,λe=>(by cases e),λ_=>h⟩
theorem AZ.call{i:Nat}{d:Option Tmp}{f:FuncId}{args:Array Operand}{ats:Array TypeId}{ty:TypeId}{p:String}{af:Ae_}{g:On_}{vs:Lv_}{R:Value->St->Prop}(U:s.q=false)(Y:Region.ready .any ops listed= [i])
  (Z:ops[i]? =some ⟨d,.call ⟨.value (.func f),args,ats⟩,ty,p,af,g⟩) (ac:Bu n d=true) (hw:AY L ops ⟨d,.call ⟨.value (.func f),args,ats⟩,ty,p,af,g⟩=some true) (hb:Ec P f=true) (ag:evs L args.toList=some vs)
  (al:EW J f vs.toArray s R) (h:∀v K,R v K->K.q=false/\(∀x o,(Bz D s).E x=some o->(Bz D K).E x=some o)/\AZ J Q b n ds ops k cs m D fuel (Bm listed i) (AB L d v) K):
  AZ J Q b n ds ops k cs m D (fuel+1) listed L s:=by
 refine AZ.one U Y Z (by simp [Ey,ac]) hw λρ O=>?_;have am:args.map ρ=vs.toArray:=by
  rw [← Gf O ag];apply Array.ext';simp
 have ap:ρ (.func f)= .func (.func f) #[] #[]:=O _ _ V;simp only [execOp,resolve,bind,Sem.bind,Deferred.ofValue,ap,pure,invoke];have e: #[]++args.map ρ++ #[]=vs.toArray:=by rw [am];simp
 rw [e];refine JN hb ?_;rw [L3];exact⟨R,al,h⟩
theorem AZ.leaf{tail:List Nat}(K:R4 m listed=true)(hgo:∀t,Region.linearise.go .any ops (fuel+1) t listed []=tail)(h:JL J Q b n L ds (.inRegion ops tail::k) cs s):AZ J Q b n ds ops k cs m D (fuel+1) listed L s:=λT O=>
 .inl ⟨K,λt=>by rw [hgo t];exact h T O⟩
theorem AZ.fin(K:Region.ready .any ops listed= [])(h:JL J Q b n L ds k cs s):AZ J Q b n ds ops k cs m D 0 listed L s:=λT O=>⟨K,JL.done h T O⟩
theorem gQ{listed:Array Bool}{i:Nat}{tail:List Nat}{fuel:Nat}(K:Region.ready .any ops listed= [i])(h:∀t,Region.linearise.go .any ops fuel t (Bm listed i) []=tail)(t:Nat):Region.linearise.go .any ops (fuel+1) t listed []=i::tail:=by
 simp only [Region.linearise.go];change (match(Region.ready .any ops listed)[t % (Region.ready .any ops listed).length]? with
  | some i=>Region.linearise.go .any ops fuel (t / (Region.ready .any ops listed).length) (listed.setIfInBounds i true) [i]
  | none=> [].reverse)=_
 rw [K];simp only [List.length_singleton,Nat.mod_one,List.getElem?_cons_zero];rw [linearise_go_acc];have:=h (t / 1);unfold Bm at this;rw [this];rfl
theorem aW{i:Nat}{rest:List Nat}{d:Option Tmp}{f:FuncId}{args:Array Operand}{ats:Array TypeId}{ty:TypeId}{p:String}{af:Ae_}{g:On_}{vs:Lv_}{R:Value->St->Prop}
  (U:ops[i]? =some ⟨d,.call ⟨.value (.func f),args,ats⟩,ty,p,af,g⟩) (hw:AY L ops ⟨d,.call ⟨.value (.func f),args,ats⟩,ty,p,af,g⟩=some true) (K:((b.kind != .early)&&Bu n d)=true) (hb:Ec P f=true)
  (Y:evs L args.toList=some vs) (Z:EW J f vs.toArray s R) (ac:∀v s',R v s'->JL J Q b n (AB L d v) ds (.inRegion ops rest::k) cs s'):
  JL J Q b n L ds (.inRegion ops (i::rest)::k) cs s:=λT O=>by
 simp only [Bool.and_eq_true] at K
 have ag:args.map (BJ T)=vs.toArray:=by
  rw [← Gf O.Gn Y];apply Array.ext';simp
 refine Judge.oper U (Ci O hw) (by simpa using K.1) (.inr λc al=>by cases al) ?_;have hd:lp P (execOp (BJ T) ⟨d,.call ⟨.value (.func f),args,ats⟩,ty,p,af,g⟩) s (upon J Q b T ds ops i rest k cs d) (Mo J Q b T ds ops i rest k cs):=by
  simp only [execOp,resolve,bind,Sem.bind,Deferred.ofValue,BJ,pure,invoke];have e: #[]++args.map (BJ T)++ #[]=vs.toArray:=by rw [ag];simp
  rw [e];refine JN hb (Z Q _ cs λv s' am=>?_);rw [GW (o:=⟨d,.call ⟨.value (.func f),args,ats⟩,ty,p,af,g⟩) _ _ _ _ _ U];exact ac v s' am _ (O.put K.2 v)
 exact hd
theorem EW.enter{f:FuncId}{fn:Func}{c:Code}{vs:Lv_}{R:Value->St->Prop}(Y:P.funcs[f]? =some fn)(hb:fn.body=some c)(al:vs.length<=fn.ntmps)
  (h:∀(Q:Gs_) (K:Frame) (cs:Lf_),(∀v s',R v s'->J.ok Q (G (K.finish v) cs) s')->JL J Q (base f) fn.ntmps (GB 0 vs) [] [.code c] (K::cs) s):EW J f vs.toArray s R:=λQ K cs Z=>by
 have he:Frame.enter P f vs.toArray .normal=fr (base f) (vs.toArray++Array.replicate (fn.ntmps - vs.length) undef) [] [.code c]:=by
  simp [Frame.enter,fr,Y,hb,base];rfl
 rw [he];refine h Q K cs Z _ ⟨by simp;omega,λt v ac=>?_⟩;obtain⟨_,O⟩:=Kr ac;have ag:t<vs.length:=by
  rcases Nat.lt_or_ge t vs.length with U | U
  .exact U
  .simp at O;have:=(List.getElem?_eq_some_iff.1 O).1;omega
 rw [Array.getD_eq_getD_getElem?,Array.getElem?_append_left (by simpa using ag)];simp at O;simp [O]
end
variable {E':LH}{B0:List (Nat×Obj)}
section
variable {b:Frame}{n:Nat}
theorem U9(O:s.q=false)(h:(∃w,Fits s w)->JL J Q b n L ds k cs s):JL J Q b n L ds k cs s:=λT U=>by
 by_cases K:∃w,Fits s w
 .exact h K T U
 .exact J.step ⟨V,λw f=>absurd ⟨w,f⟩ K,λe=>by subst e;cases O⟩
theorem Tr{x:Nat}:∀{B:List (Nat×Obj)},(∃p∈B,p.1=x)->Bq B H x≠none
 | [],⟨p,K,_⟩=>by cases K
 | (c,o)::B,⟨p,K,e⟩=>by
  simp only [Bq]
  split
  .simp
  .rename_i O;rcases List.mem_cons.1 K with q | q
   .subst q;exact absurd e.symm O
   .exact Tr ⟨p,q,e⟩
theorem Nd.grow(U:Nd E H B)(hd:∀x,E' x≠none->Bq B H x=none):Nd E' H B:=by
 have key:∀{C:List (Nat×Obj)},Nd E H C->(∀p∈C,p∈B)->Nd E' H C:=by
  intro C
  induction C with
  | nil=>intro _ _;trivial
  | cons p C Y=>
   obtain⟨c,o⟩:=p;intro hC O;refine⟨?_,hC.2.1,hC.2.2.1,Y hC.2.2.2 λp K=>O p (List.mem_cons_of_mem _ K)⟩;cases Z:E' c with
   | none=>rfl
   | some u=>exact absurd (hd c (by rw [Z];simp)) (Tr ⟨(c,o),O _ (by simp),rfl⟩)
 exact key U λp K=>K
def Qd(E:LH)(K:Nat)(v:Value)(n:Nat)(xs:Lv_):Prop:=
 ∃a c,v= .slice a n c/\n<=c/\xs.length=n*K/\(n=0∨∃bk off f e fr,a=some ⟨bk,off,none⟩/\E bk=some (.cells f e fr)/\∀j w,xs[j]? =some w->f[off+j]? =some w)
theorem Qd.nil{K:Nat}:Qd E K (.slice none 0 0) 0 []:=⟨none,0,V,Nat.le_refl _,by simp,.inl V⟩
def GS(e:TypeId)(K:Nat)(a:Option Addr)(l c:Nat)(blk:List (Nat×Obj))(xs:Lv_):Prop:=
 (a=none/\l=0/\c=0/\blk= []/\xs= [])∨∃bk f,a=some ⟨bk,0,none⟩/\blk= [(bk,.cells f e (0,0))]/\f.size=c*K/\l<=c/\xs=f.toList.take (l*K)
theorem GS.nil{e:TypeId}{K:Nat}:GS e K none 0 0 [] []:= .inl ⟨V,V,V,V,V⟩
theorem GS.length{e:TypeId}{K:Nat}{a:Option Addr}{l c:Nat}{blk:List (Nat×Obj)}{xs:Lv_}(h:GS e K a l c blk xs):xs.length=l*K:=by
 rcases h with⟨_,rfl,_,_,rfl⟩ | ⟨bk,f,_,_,O,U,rfl⟩
 .simp
 .have:l*K<=c*K:=Nat.mul_le_mul_right _ U;simp [O,Nat.min_eq_left this]
theorem Xi{t e:TypeId}{v:Value}{Q:Value->St->Prop}{X:Halt->St->Prop}{z:Value}(O:P.underlying t=some (.slice e))(U:By P e=some v.cells.size)(Y:zeroOf P e=some z)(am:z.cells.size=v.cells.size)(ap:0<v.cells.size)(aq:v.cells.size<=64)
  (Z:Nd E H B) (k:∀r,Nd E H (B++ [(r,.cells v.cells e (0,0))])->Q (.slice (some ⟨r,0,none⟩) 1 1) (mk E H (B++ [(r,.cells v.cells e (0,0))]))):lp P (Instr.buildSlice t 1 #[(0,v)]) (mk E H B) Q X:=by
 unfold Instr.buildSlice;refine Ay _ _ (Cx O ?_);refine Ay _ _ (Fh U ?_);rw [if_neg (by omega),if_neg (by omega)];refine Ay (x:=zeroValue e) _ (H8 Y ?_);have ac:Instr.fill (λi=>some (i*v.cells.size,v.cells.size)) ((Array.range (1*v.cells.size)).map λi=>z.cells[i % z.cells.size]!) [(0,v)]=some v.cells:=by
  simp only [Instr.fill,Array.size_map,Array.size_range,Nat.one_mul,Nat.zero_mul];rw [if_neg (by simp)];congr 1;apply Array.ext_getElem?;intro j;have key:∀(l:Lv_) (st:Nat) (c:Av_),st+l.length<=c.size->∀j,(List.foldl (λcs (p:Value×Nat)=>cs.setIfInBounds (0+p.2) p.1) c (l.zipIdx st))[j]? =if st<=j/\j<st+l.length then l[j - st]? else c[j]? :=by
   intro l
   induction l with
   | nil=>intro st c _ j;simp;omega
   | cons x l ag=>
    intro st c av j;simp only [List.zipIdx_cons,List.foldl_cons,List.length_cons] at*;rw [ag (st+1) _ (by simp;omega) j];simp only [Nat.zero_add];by_cases al:j=st
    .subst al;rw [if_neg (by omega),if_pos (by omega)];rw [Nat.sub_self,List.getElem?_cons_zero,Array.getElem?_setIfInBounds_self_of_lt (by omega)]
    .by_cases e2:st+1<=j/\j<st+1+l.length
     .rw [if_pos e2,if_pos (by omega)];have:j - st=(j - (st+1))+1:=by omega
      rw [this];simp
     .rw [if_neg e2,if_neg (by omega),Array.getElem?_setIfInBounds_ne (by omega)]
  have:=key v.cells.toList 0 ((Array.range v.cells.size).map λi=>z.cells[i % z.cells.size]!) (by simp) j;rw [← Array.foldl_toList,Array.toList_zipIdx,this];by_cases K:j<v.cells.size
  .simp [K]
  .simp [K]
 rw [IG];simp only [ac];exact Ay _ _ (JX Z k)
end
section
variable {b:Frame}{n:Nat}
theorem MP{ρ:Operand->Value}{d:Option Tmp}{x y:Operand}{ats:Array TypeId}{ty:TypeId}{p:String}{af:Ae_}{g:On_}:
  execOp ρ ⟨d,.call ⟨.builtin .append,#[x,y],ats⟩,ty,p,af,g⟩=(do pure (Next.value (← Builtin.append_ ats ty #[ρ x,ρ y]))):=by
 simp [execOp,resolve,invoke,builtin,bind,Sem.bind,pure]
theorem Xk{ρ:Operand->Value}{d:Option Tmp}{y:Operand}{t ty:TypeId}{p:String}{af:Ae_}{g:On_}:
  execOp ρ ⟨d,.buildSlice t 1 #[(0,y)],ty,p,af,g⟩=(do pure (Next.value (← Instr.buildSlice t 1 #[(0,ρ y)]))):=by
 simp [execOp]
theorem gY{L:Env}{d1:Tmp}{w:Value}:ev (AB L (some d1) w) (.tmp d1)=some w:=by
 simp [AB,ev,look]
theorem Jl{α:Type}(l r:List α)(x y:α):(l++x::r).set l.length y=l++y::r:=by simp
theorem Lb{e t t1:TypeId}{Y aq l c m:Nat}{a:Option Addr}{blk:List (Nat×Obj)}{xs ys:Lv_}{i:Nat}{rest:List Nat}{d:Option Tmp}{x y:Operand}{ats:Array TypeId}{ty:TypeId}{p:String}{af:Ae_}{g:On_}{z:Value}{ax:Option Addr}{cx:Nat}{B1:List (Nat×Obj)}
  (a5:ops[i]? =some ⟨d,.call ⟨.builtin .append,#[x,y],ats⟩,ty,p,af,g⟩) (hw:AY L ops ⟨d,.call ⟨.builtin .append,#[x,y],ats⟩,ty,p,af,g⟩=some true) (a6:BU b n ⟨d,.call ⟨.builtin .append,#[x,y],ats⟩,ty,p,af,g⟩=true)
  (a7:ev L x=some (.slice a l c)) (a8:ev L y=some (.slice ax m cx)) (a9:ats[0]? =some t) (bb:ats[1]? =some t1) (be:P.underlying t=some (.slice e)) (bi:P.underlying t1=some (.slice e)) (bn:By P e=some Y) (hb:F4 P e=some aq) (bo:zeroOf P e=some z) (bv:z.cells.size=Y)
  (bw:0<aq) (bx:aq<=64) (cc:0<m) (bz:l+m<=2 ^ 40) (b0:∀w∈ys,C5 w=true) (av:GS e Y a l c blk xs) (b1:Nd E H (B0++blk++B1)) (b2:Im (mk E H (B0++blk++B1)) (.slice ax m cx) Y ys)
  (h:∀a3 ag aw,GS e Y a3 (l+m) ag aw (xs++ys)->Nd E H (B0++aw)->JL J Q b n (AB L d (.slice a3 (l+m) ag)) ds (.inRegion ops rest::k) cs (mk E H (B0++aw))):
  JL J Q b n L ds (.inRegion ops (i::rest)::k) cs (mk E H (B0++blk++B1)):=by
 refine JL.op a5 hw a6 λρ a4=>?_;rw [MP,a4 x _ a7,a4 y _ a8];have b3:PM (B0++blk++B1) B0.length e Y a l c xs:=by
  rcases av with⟨O,ac,al,ay,am⟩ | ⟨bk,f,O,ac,al,ay,am⟩
  .exact .inl ⟨O,ac,al,am⟩
  .refine .inr ⟨bk,f,O,?_,al,ay,am⟩;subst ac;simp
 have hlen:=av.length;refine Ay _ _ (QN (pl:=B0.length) a9 bb bi be bn hb bo bv b1 b3 b2 b0 bw bz bx ?_ ?_ ?_)
 ·
  intro bk f K ap ce ci b4 az a0 Z;rcases av with⟨O,_⟩ | ⟨U,f0,O,ac,al,ay,am⟩
  .rw [O] at ap;cases ap
  .subst ac;have b5:U=bk:=by rw [O] at ap;simpa using ap
   subst b5;have b6:(B0++ [(U,Obj.cells f0 e (0,0))]++B1).set B0.length (U,.cells K e (0,0))=B0++ [(U,.cells K e (0,0))]++B1:=by
    rw [List.append_assoc,List.append_assoc];exact Jl _ _ _ _
   rw [b6] at Z ⊢;have a1:Nd E H (B0++ [(U,.cells K e (0,0))]):=Nd.left Z;refine JL.drop (B0++ [(U,.cells K e (0,0))]) (λp a2=>?_) Z (h a c _ (.inr ⟨U,K,O,V,az,b4,a0.symm⟩) a1);exact List.mem_iff_getElem?.1 (List.mem_append_left _ a2)
 .intro _ hm;omega
 ·
  intro r K ag ca az a0 Z;have a1:Nd E H (B0++ [(r,.cells K e (0,0))]):=Nd.pick Z;refine JL.drop (B0++ [(r,.cells K e (0,0))]) (λp a2=>?_) Z (h (some ⟨r,0,none⟩) ag _ (.inr ⟨r,K,V,V,az,ca,a0.symm⟩) a1);refine List.mem_iff_getElem?.1 ?_;rcases List.mem_append.1 a2 with q | q
  .simp [q]
  .exact List.mem_append_right _ q
 where
  Nd.left {E H : LH} {A C : List (Nat × Obj)} (h : Nd E H (A ++ C)) : Nd E H A := by
    induction A with
    | nil => trivial
    | cons p A ih =>
      obtain ⟨c, o⟩ := p
      obtain ⟨h1, h2, h3, h4⟩ := h
      exact ⟨h1, h2, λq hq => h3 q (List.mem_append_left _ hq), ih h4⟩
  Nd.pick {E H : LH} {A C F : List (Nat × Obj)} {x : Nat × Obj} (h : Nd E H (A ++ C ++ F ++ [x])) : Nd E H (A ++ [x]) := by
    induction A with
    | nil =>
      have : ∀ (D : List (Nat × Obj)), Nd E H (D ++ [x]) -> Nd E H [x] := by
        intro D
        induction D with
        | nil => exact λh => h
        | cons p D ih => obtain ⟨c, o⟩ := p; exact λh => ih h.2.2.2
      exact this _ h
    | cons p A ih =>
      obtain ⟨c, o⟩ := p
      obtain ⟨h1, h2, h3, h4⟩ := h
      refine ⟨h1, h2, λq hq => h3 q ?_, ih h4⟩
      rcases List.mem_append.1 hq with hq | hq
      . simp [hq]
      . exact List.mem_append_right _ hq
theorem Zf{K r:Nat}{e:TypeId}{v:Value}{A:List (Nat×Obj)}(O:v.cells.size=K)(U:Nd E H (A++ [(r,.cells v.cells e (0,0))])):
  Im (mk E H (A++ [(r,.cells v.cells e (0,0))])) (.slice (some ⟨r,0,none⟩) 1 1) K v.cells.toList:=by
 refine⟨.inl V,by simp [O],Nat.le_refl _,λj w Y=>?_⟩;simp only [Nat.zero_add];refine Um (i:=A.length) U (c:=v.cells) (e:=e) (f:=(0,0)) (by simp) ?_;simpa using Y
theorem X4{e t t1 t2:TypeId}{K O l c:Nat}{a:Option Addr}{blk:List (Nat×Obj)}{xs:Lv_}{i al:Nat}{rest:List Nat}{d1:Tmp}{d:Option Tmp}{x y:Operand}{ats:Array TypeId}{ty U:TypeId}{p Y:String}{af Z:Ae_}{g g':On_}{z v:Value}
  (az:ops[i]? =some ⟨some d1,.buildSlice t2 1 #[(0,y)],U,Y,Z,g'⟩) (hw:AY L ops ⟨some d1,.buildSlice t2 1 #[(0,y)],U,Y,Z,g'⟩=some true) (a0:BU b n ⟨some d1,.buildSlice t2 1 #[(0,y)],U,Y,Z,g'⟩=true)
  (a1:ops[al]? =some ⟨d,.call ⟨.builtin .append,#[x,.tmp d1],ats⟩,ty,p,af,g⟩) (a2:∀w,AY (AB L (some d1) w) ops ⟨d,.call ⟨.builtin .append,#[x,.tmp d1],ats⟩,ty,p,af,g⟩=some true) (a3:BU b n ⟨d,.call ⟨.builtin .append,#[x,.tmp d1],ats⟩,ty,p,af,g⟩=true)
  (a4:∀w,ev (AB L (some d1) w) x=some (.slice a l c)) (a5:ev L y=some v) (a6:ats[0]? =some t) (a7:ats[1]? =some t1) (a8:P.underlying t=some (.slice e)) (a9:P.underlying t1=some (.slice e)) (bb:P.underlying t2=some (.slice e)) (am:By P e=some K) (hb:F4 P e=some O) (ap:zeroOf P e=some z) (aq:z.cells.size=K)
  (be:0<O) (bi:O<=64) (ac:v.cells.size=K) (bz:0<K) (b0:K<=64) (bn:l+1<=2 ^ 40) (bo:∀w∈v.cells.toList,C5 w=true) (bv:GS e K a l c blk xs) (bw:Nd E H (B0++blk))
  (h:∀w av aw ag,GS e K av (l+1) aw ag (xs++v.cells.toList)->Nd E H (B0++ag)->JL J Q b n (AB (AB L (some d1) w) d (.slice av (l+1) aw)) ds (.inRegion ops rest::k) cs (mk E H (B0++ag))):
  JL J Q b n L ds (.inRegion ops (i::al::rest)::k) cs (mk E H (B0++blk)):=by
 refine JL.op az hw a0 λρ bx=>?_;rw [Xk,bx y _ a5];refine Ay _ _ (Xi (z:=z) (v:=v) bb (by rw [ac];exact am) ap (by rw [ac];exact aq) (by omega) (by omega) bw λr ay=>?_);refine Lb (B1:= [(r,.cells v.cells e (0,0))]) (m:=1) (cx:=1) (ax:=some ⟨r,0,none⟩) (y:= .tmp d1) (x:=x) (ys:=v.cells.toList) (l:=l) (c:=c) (a:=a) (blk:=blk) (xs:=xs) a1 (a2 _) a3 (a4 _) gY a6 a7 a8 a9 am hb ap aq be bi (by omega) bn bo bv ay ?_ (h _);exact Zf ac ay
theorem XE{e:TypeId}{K l c:Nat}{a:Option Addr}{blk:List (Nat×Obj)}{xs:Lv_}{todo:Li_}(ac:GS e K a l c blk xs)(U:Nd E H (B0++blk))
  (h:∀E',Le E E'->Qd E' K (.slice a l c) l xs->Nd E' H B0->JL J Q b n L ds todo cs (mk E' H B0)):JL J Q b n L ds todo cs (mk E H (B0++blk)):=by
 rcases ac with⟨rfl,rfl,rfl,rfl,rfl⟩ | ⟨bk,f,rfl,rfl,ag,Y,rfl⟩
 .simp only [List.append_nil] at U ⊢;exact h E (Le.refl _) .nil U
 .have al:(B0++ [(bk,Obj.cells f e (0,0))])[B0.length]? =some (bk,Obj.cells f e (0,0)):=by simp
  refine JL.freeze B0.length U al λE' hle am Z=>?_;have ap:(B0++ [(bk,Obj.cells f e (0,0))]).eraseIdx B0.length=B0:=by rw [List.eraseIdx_append_of_length_le (Nat.le_refl _)];simp
  rw [ap] at Z ⊢;refine h E' hle ⟨_,c,V,Y,?_,.inr ⟨bk,0,f,e,(0,0),V,am,λj w O=>?_⟩⟩ Z
  .have:l*K<=c*K:=Nat.mul_le_mul_right _ Y;simp [ag,Nat.min_eq_left this]
  .rw [List.getElem?_take] at O;split at O
   .simpa using O
   .cases O
end
abbrev iV(n:Int):Value:= .int .i64 n
variable {c:Nat}
section
variable {x:Operand}{a:Nat}
end
theorem Q3{P:Program}{t:TypeId}{K:TypeInfo}(h:P.types[t]? =some K):P.info? t=some K:=by
 have:=(Array.getElem?_eq_some_iff.1 h).1;unfold Tables.info?;rw [if_pos this,h]
theorem AX{P:Program}{t:TypeId}{K:TypeInfo}(h:P.types[t]? =some K):By P t=some K.size:=by simp [By,Q3 h]
theorem DF{P:Program}{t:TypeId}{K:TypeInfo}(h:P.types[t]? =some K):F4 P t=some K.bytes:=by simp [F4,Q3 h]
theorem Dx{P:Program}{t:TypeId}{K:TypeInfo}(h:P.types[t]? =some K):zeroOf P t=K.zero:=by simp [zeroOf,Q3 h]
def fE:TypeDesc->Bool | .struct _=>true | .array _ _=>true | _=>false
theorem CB{P:Program}{t:TypeId}{d:TypeDesc}(h:P.underlying t=some d):DU P t=some (fE d):=by
 unfold DU;rw [h];cases d <;> rfl
theorem A5{P:Program}{f:FuncId}{fn:Func}(h:P.funcs[f]? =some fn)(hb:(!(fn.name== "runtime.NumGoroutine")&&fn.body.isSome)=true):Ec P f=true:=by
 simp only [Ec,h];exact hb
def VR(a:Nat):Nat->List Nat
 | 0=> []
 | n+1=>VR a n++(if a.testBit n then [n] else [])
abbrev WZ(a:Nat):List Nat:=VR a 16
end Pal
namespace Pal
open Go Go.Conc
def At(E:LH)(bk o:Nat)(ws:Lv_):Prop:=∃f e fr,E bk=some (.cells f e fr)/\∀j w,ws[j]? =some w->f[o+j]? =some w
theorem At.M{E E':LH}{bk o:Nat}{ws:Lv_}(h:At E bk o ws)(hle:Le E E'):At E' bk o ws:=let ⟨f,e,fr,K,O⟩:=h;⟨f,e,fr,hle _ _ K,O⟩
theorem At.cell{E H:LH}{B:List (Nat×Obj)}{bk o j:Nat}{ws:Lv_}{w:Value}(h:At E bk o ws)(K:ws[j]? =some w):(mk E H B).cell? ⟨bk,o+j,none⟩=some w:=
 let ⟨_,_,_,O,U⟩:=h;YX O (U j w K)
theorem At.cells{E H:LH}{B:List (Nat×Obj)}{bk o:Nat}{ws:Lv_}(h:At E bk o ws):∀j v,ws[j]? =some v->(mk E H B).cell? (Addr.add ⟨bk,o,none⟩ j)=some v:=λj v K=>by
 rw [Ek rfl];exact h.cell K
variable {P:Program}{J:Judge P}{Q:Gs_}{ds:Ld_}{ops:Ao_}{k:Li_}{cs:Lf_}{L:Env}{s:St}{E E' H:LH}{B B0:List (Nat×Obj)}
variable {d:Option Tmp}{y:Operand}{t u ty e:TypeId}{p:String}{af:Ae_}{g:On_}{rest:List Nat}{kd:IntKind}
section
variable {b:Frame}{n:Nat}
variable {x:Operand}{v:Value}{i:Nat}
theorem JL.put(h:look L i=some v)(O:JL J Q b n (AB L (some i) v) ds k cs s):JL J Q b n L ds k cs s:=λT K=>
 O T ⟨K.size,λt w e=>by
  simp only [AB,look] at e
  split at e
  .rename_i U;subst U;cases e;exact K.at_ _ _ h
  .exact K.at_ _ _ e⟩
theorem MX{q:Prop} [Decidable q] (h:look L i=some (.bool (decide q)))(O:q->JL J Q b n (AB L (some i) (.bool true)) ds k cs s)(U:¬q->JL J Q b n (AB L (some i) (.bool false)) ds k cs s):JL J Q b n L ds k cs s:=by
 by_cases K:q
 .refine JL.put (i:=i) (v:= .bool true) ?_ (O K);rw [h,decide_eq_true K]
 .refine JL.put (i:=i) (v:= .bool false) ?_ (U K);rw [h,decide_eq_false K]
theorem Lc{c:Bool}(h:look L i=some (.bool c))(K:c=true->JL J Q b n (AB L (some i) (.bool true)) ds k cs s)(O:c=false->JL J Q b n (AB L (some i) (.bool false)) ds k cs s):JL J Q b n L ds k cs s:=by
 cases c
 .exact JL.put h (O V)
 .exact JL.put h (K V)
end
theorem Ft{P:Program}{s:St}{ρ:Operand->Value}{d:Option Tmp}{t ty ft:TypeId}{x:Operand}{p:String}{af:Ae_}{g:On_}{a:Addr}{O:Array Field}{i:Nat}{K:Field}(U off:Nat)(Y:P.underlying t=some (.struct O))(Z:By P ft=some (U+1))(hi:O[i]? =some K)(ac:K.type=ft)(ag:K.offset=off)(al:ρ x= .pointer (some a)):
  Yl P ⟨d,.fieldAddr t x i,ty,p,af,g⟩ ρ s (.pointer (some (a.add off))):=by
 subst ac ag;exact Yl.fieldAddr Y hi Z al
section
variable {b:Frame}{n:Nat}
variable {x:Operand}{v:Value}{i:Nat}
theorem At.GC{bk o j:Nat}{ws:Lv_}{w:Value}(h:At E bk o ws)(K:∀x o,E x=some o->s.E x=some o)(O:ws[j]? =some w):s.cell? ⟨bk,o+j,none⟩=some w:=by
 obtain⟨f,e,fr,U,Y⟩:=h;unfold St.cell? St.get;rw [K _ _ U];exact Y j w O
theorem At.RS{bk o:Nat}{ws:Lv_}(h:At E bk o ws)(K:∀x o,E x=some o->s.E x=some o):∀j v,ws[j]? =some v->s.cell? (Addr.add ⟨bk,o,none⟩ j)=some v:=λj v O=>by
 rw [Ek rfl];exact h.GC K O
end
variable {listed:Array Bool}
section
variable {b:Frame}{n:Nat}{m fuel:Nat}
variable {x:Operand}{v:Value}{i:Nat}
end
variable {D:Nat->Bool}
section
variable {b:Frame}{n:Nat}{m fuel:Nat}{i:Nat}{v:Value}
theorem AZ.put(h:look L i=some v)(O:AZ J Q b n ds ops k cs m D fuel listed (AB L (some i) v) s):AZ J Q b n ds ops k cs m D fuel listed L s:=λT K=>
 O T ⟨K.size,λt w e=>by
  simp only [AB,look] at e
  split at e
  .rename_i U;subst U;cases e;exact K.at_ _ _ h
  .exact K.at_ _ _ e⟩
theorem Gy{q:Prop} [Decidable q] (h:look L i=some (.bool (decide q)))(O:q->AZ J Q b n ds ops k cs m D fuel listed (AB L (some i) (.bool true)) s)(U:¬q->AZ J Q b n ds ops k cs m D fuel listed (AB L (some i) (.bool false)) s):AZ J Q b n ds ops k cs m D fuel listed L s:=by
 by_cases K:q
 .refine AZ.put (i:=i) (v:= .bool true) ?_ (O K);rw [h,decide_eq_true K]
 .refine AZ.put (i:=i) (v:= .bool false) ?_ (U K);rw [h,decide_eq_false K]
end
structure Rp (α:Type) where
 n:Nat
 r:LH->Lv_->α->Prop
 M:∀{E E':LH} {ws:Lv_} {x:α},Le E E'->r E ws x->r E' ws x
 len:∀{E:LH} {ws:Lv_} {x:α},r E ws x->ws.length=n
 one:∀{E:LH} {ws:Lv_} {x:α},r E ws x->∀w∈ws,C5 w=true
def rK(kd:IntKind):Rp Int:=⟨1,λ_ ws x=>ws= [.int kd x],λ_ h=>h,λh=>by subst h;rfl,λh w hw=>by subst h;simp at hw;subst hw;rfl⟩
abbrev rI:Rp Int:=rK .i64
def rN(kd:IntKind):Rp Nat:=⟨1,λ_ ws x=>ws= [.int kd ((x:Nat):Int)],λ_ h=>h,λh=>by subst h;rfl,λh w hw=>by subst h;simp at hw;subst hw;rfl⟩
def rB:Rp Bool:=⟨1,λ_ ws x=>ws= [.bool x],λ_ h=>h,λh=>by subst h;rfl,λh w hw=>by subst h;simp at hw;subst hw;rfl⟩
def rP{α β:Type}(p:Rp α)(q:Rp β):Rp (α×β):=⟨p.n+q.n,λE ws x=>∃U Y,ws=U++Y/\p.r E U x.1/\q.r E Y x.2,
 λhle ⟨a,b,h,K,O⟩=>⟨a,b,h,p.M hle K,q.M hle O⟩,λ⟨a,b,h,K,O⟩=>by subst h;rw [List.length_append,p.len K,q.len O],
 λ⟨a,b,h,K,O⟩ w hw=>by
  subst h
  rcases List.mem_append.1 hw with hw | hw
  .exact p.one K w hw
  .exact q.one O w hw⟩
def Ao{α:Type}(p:Rp α)(E:LH)(a:Option Addr)(c:Nat)(xs:List α):Prop:=
 xs.length<=c/\((xs= []/\∀ad:Addr,a=some ad->ad.spot=none∨c=0)∨∃bk off,a=some ⟨bk,off,none⟩/\∀(i:Nat) x,xs[i]? =some x->∃ws,p.r E ws x/\At E bk (off+i*p.n) ws)
theorem Ao.M{α:Type}{p:Rp α}{E E':LH}{a:Option Addr}{c:Nat}{xs:List α}(h:Ao p E a c xs)(hle:Le E E'):Ao p E' a c xs:=
 ⟨h.1,h.2.imp id λ⟨bk,off,K,O⟩=>⟨bk,off,K,λi x U=>let ⟨ws,Y,Z⟩:=O i x U;⟨ws,p.M hle Y,Z.M hle⟩⟩⟩
theorem Ao.nil{α:Type}{p:Rp α}{E:LH}{c:Nat}:Ao p E none c []:=⟨Nat.zero_le _,.inl ⟨V,λ_ h=>by cases h⟩⟩
def rL{α:Type}(p:Rp α):Rp (List α):=⟨1,λE ws xs=>∃a c,ws= [.slice a xs.length c]/\Ao p E a c xs,
 λhle ⟨a,c,h,K⟩=>⟨a,c,h,K.M hle⟩,λ⟨a,c,h,K⟩=>by subst h;rfl,λ⟨a,c,h,K⟩ w hw=>by subst h;simp at hw;subst hw;rfl⟩
def rV:Rp Value:=⟨1,λ_ ws x=>ws= [x]/\C5 x=true,λ_ h=>h,λh=>by rw [h.1];rfl,λh w hw=>by rw [h.1] at hw;simp at hw;subst hw;exact h.2⟩
def rA{α:Type}(k:Nat)(p:Rp α):Rp (List α):=⟨k*p.n,λE ws xs=>xs.length=k/\∃wss:List (Lv_),ws=wss.flatten/\wss.length=k/\∀(i:Nat) x us,xs[i]? =some x->wss[i]? =some us->p.r E us x,
 λhle ⟨U,wss,h,K,O⟩=>⟨U,wss,h,K,λi x us a b=>p.M hle (O i x us a b)⟩,
 λ{E ws xs} ⟨U,wss,h,K,O⟩=>by
  subst h
  have:∀(wss:List (Lv_)) (xs:List α),xs.length=wss.length->(∀(i:Nat) x us,xs[i]? =some x->wss[i]? =some us->p.r E us x)->wss.flatten.length=wss.length*p.n:=by
   intro wss
   induction wss with
   | nil=>intro xs _ _;simp
   | cons us wss Z=>
    intro xs Y h
    cases xs with
    | nil=>simp at Y
    | cons x xs=>
     rw [List.flatten_cons,List.length_append,p.len (h 0 x us rfl rfl),Z xs (by simpa using Y) (λi y u a b=>h (i+1) y u a b),List.length_cons,Nat.succ_mul,Nat.add_comm]
  rw [this wss xs (by omega) O,K],
 λ{E ws xs} ⟨U,wss,h,K,O⟩ w hw=>by
  subst h
  obtain⟨us,ac,hw⟩:=List.mem_flatten.1 hw
  obtain⟨i,hi⟩:=List.mem_iff_getElem?.1 ac
  have ag:i<xs.length:=by rw [U,← K];exact(List.getElem?_eq_some_iff.1 hi).1
  exact p.one (O i _ us (List.getElem?_eq_getElem ag) hi) w hw⟩
def ix{α:Type}(xs:List α)(i:Int):Option α:=if 0<=i then xs[i.toNat]? else none
theorem Gi{α:Type}{xs:List α}{i:Int}{x:α}(h:ix xs i=some x):∃m:Nat,i=m/\xs[m]? =some x:=by
 unfold ix at h;split at h
 .exact⟨i.toNat,by omega,h⟩
 .cases h
def Av(x:Int):Option Int:=if -9223372036854775808<=x/\x<=9223372036854775807 then some x else none
theorem L4{x y:Int}(h:Av x=some y):y=x/\ -9223372036854775808<=x/\x<=9223372036854775807:=by
 unfold Av at h;split at h
 .rename_i hb;exact⟨(Option.some.inj h).symm,hb⟩
 .cases h
theorem bind_some{α β:Type}{o:Option α}{f:α->Option β}{r:β}(h:o.bind f=some r):∃x,o=some x/\f x=some r:=by
 cases o with
 | none=>cases h
 | some x=>exact⟨x,rfl,h⟩
inductive Br (S A:Type) where
 | more (s:S)
 | done (a:A)
def iter{S A:Type}(body:S->Option (Br S A)):Nat->S->Option A
 | 0,_=>none
 | f+1,s=>match body s with
  | none=>none
  | some (.done a)=>some a
  | some (.more s')=>iter body f s'
theorem TX{S A:Type}{body:S->Option (Br S A)}{f:Nat}{s:S}{a:A}(h:iter body (f+1) s=some a):∃st,body s=some st:=by
 simp only [iter] at h;cases hb:body s with
 | none=>rw [hb] at h;cases h
 | some st=>exact⟨st,rfl⟩
theorem Tw{S A:Type}{body:S->Option (Br S A)}{f:Nat}{s:S}{a K:A}(h:iter body (f+1) s=some a)(hb:body s=some (.done K)):K=a:=by
 simp only [iter,hb] at h;exact Option.some.inj h
theorem TV{S A:Type}{body:S->Option (Br S A)}{f:Nat}{s s':S}{a:A}(h:iter body (f+1) s=some a)(hb:body s=some (.more s')):iter body f s'=some a:=by
 simp only [iter,hb] at h;exact h
abbrev Seg:=List (Nat×Obj)
def Ak(E H:LH)(S:List Seg):St:=mk E H S.flatten
def Au(E H:LH)(S:List Seg):Prop:=Nd E H S.flatten
theorem Nd.mem{E H:LH}:∀{B:List (Nat×Obj)} {b:Nat} {o:Obj},Nd E H B->(b,o)∈B->∃i:Nat,B[i]? =some (b,o):=λ_ h=>List.mem_iff_getElem?.1 h
theorem Nd.iff{E H:LH}:∀{B:List (Nat×Obj)},Nd E H B↔(B.map (·.1)).Nodup/\∀p∈B,E p.1=none/\H p.1=none
 | []=>by simp [Nd]
 | (b,o)::B=>by
  simp only [Nd,List.map_cons,List.nodup_cons,List.mem_cons,forall_eq_or_imp,Nd.iff (B:=B),List.mem_map,not_exists,not_and]
  constructor
  .rintro⟨K,O,U,Y,Z⟩;exact⟨⟨U,Y⟩,⟨K,O⟩,Z⟩
  .rintro⟨⟨U,Y⟩,⟨K,O⟩,Z⟩;exact⟨K,O,U,Y,Z⟩
theorem Nd.perm{E H:LH}{B B':List (Nat×Obj)}(h:Nd E H B)(K:B.Perm B'):Nd E H B':=by
 rw [Nd.iff] at h ⊢;exact⟨(K.map _).nodup_iff.1 h.1,λp O=>h.2 p (K.mem_iff.2 O)⟩
theorem Tu{E H:LH}{B B':List (Nat×Obj)}(h:Nd E H B)(K:B.Perm B'):Bq B H=Bq B' H:=by
 funext x;by_cases O:∃p∈B,p.1=x
 .obtain⟨⟨b,o⟩,hm,rfl⟩:=O;obtain⟨i,hi⟩:=h.mem hm;obtain⟨j,U⟩:=(h.perm K).mem (K.mem_iff.1 hm);rw [J0 h hi,J0 (h.perm K) U]
 .have key:∀{C:List (Nat×Obj)},(∀p∈C,p.1≠x)->Bq C H x=H x:=by
   intro C
   induction C with
   | nil=>intro _;rfl
   | cons p C Y=>
    intro hC;obtain⟨c,u⟩:=p;have Z:x≠c:=λe=>hC (c,u) (by simp) e.symm;simp only [Bq,if_neg Z];exact Y λp K=>hC p (List.mem_cons_of_mem _ K)
  rw [key λp K e=>O ⟨p,K,e⟩,key λp ac e=>O ⟨p,K.mem_iff.2 ac,e⟩]
theorem Fs{E H:LH}{B B':List (Nat×Obj)}(h:Nd E H B)(K:B.Perm B'):mk E H B=mk E H B':=by unfold mk;rw [Tu h K]
theorem EG{S:List Seg}{j:Nat}{seg seg':Seg}(h:S[j]? =some seg):S.flatten.Perm ((S.set j []).flatten++seg)/\(S.set j seg').flatten.Perm ((S.set j []).flatten++seg'):=by
 induction S generalizing j with
 | nil=>simp at h
 | cons x S K=>
  cases j with
  | zero=>
   simp at h;subst h;simp only [List.set_cons_zero,List.flatten_cons,List.nil_append];exact⟨List.perm_append_comm,List.perm_append_comm⟩
  | succ j=>
   simp at h;obtain⟨O,U⟩:=K h;simp only [List.set_cons_succ,List.flatten_cons,List.append_assoc];exact⟨O.append_left x,U.append_left x⟩
theorem Hg{E H:LH}{S:List Seg}{j:Nat}{seg:Seg}(K:Au E H S)(h:S[j]? =some seg):Ak E H S=mk E H ((S.set j []).flatten++seg)/\Nd E H ((S.set j []).flatten++seg):=
 ⟨Fs K (EG (seg':=seg) h).1,Nd.perm K (EG (seg':=seg) h).1⟩
theorem Jp{E H:LH}{S:List Seg}{j:Nat}{seg seg':Seg}(h:S[j]? =some seg)(K:Nd E H ((S.set j []).flatten++seg')):mk E H ((S.set j []).flatten++seg')=Ak E H (S.set j seg')/\Au E H (S.set j seg'):=
 ⟨Fs K (EG h).2.symm,Nd.perm K (EG h).2.symm⟩
theorem Hc(S:List Seg)(seg:Seg):(S++ [seg]).flatten=S.flatten++seg:=by simp
theorem FN{E H:LH}{S:List Seg}{seg:Seg}(K:Nd E H (S.flatten++seg)):mk E H (S.flatten++seg)=Ak E H (S++ [seg])/\Au E H (S++ [seg]):=by
 unfold Ak Au;rw [Hc];exact⟨V,K⟩
theorem DO{E H:LH}{S:List Seg}{j i bk:Nat}{seg:Seg}{o:Obj}(K:Au E H S)(O:S[j]? =some seg)(hi:seg[i]? =some (bk,o)):(Ak E H S).get bk=some o:=by
 have hm:(bk,o)∈S.flatten:=List.mem_flatten.2 ⟨seg,List.mem_of_getElem? O,List.mem_of_getElem? hi⟩;obtain⟨Y,U⟩:=K.mem hm;exact Qx K U
theorem B5{E H:LH}{S:List Seg}{j bk off:Nat}{c:Av_}{e:TypeId}{f:Nat×Nat}{v:Value}{seg:Seg}(K:Au E H S)(O:S[j]? =some ((bk,.cells c e f)::seg))(U:c[off]? =some v):(Ak E H S).cell? ⟨bk,off,none⟩=some v:=by
 unfold St.cell?;rw [DO (i:=0) K O rfl];exact U
theorem Yj{E H:LH}{S:List Seg}{j bk off:Nat}{c:Av_}{e:TypeId}{f:Nat×Nat}{vs:Lv_}{seg:Seg}(K:Au E H S)(O:S[j]? =some ((bk,.cells c e f)::seg))(U:∀i v,vs[i]? =some v->c[off+i]? =some v):∀i v,vs[i]? =some v->(Ak E H S).cell? (Addr.add ⟨bk,off,none⟩ i)=some v:=λi v hi=>by
 rw [Ek rfl];exact B5 K O (U i v hi)
def OL{α:Type}(e:TypeId)(p:Rp α)(E:LH)(a:Option Addr)(c:Nat)(seg:Seg)(xs:List α):Prop:=
 ∃wss:List (Lv_),GS e p.n a xs.length c seg wss.flatten/\wss.length=xs.length/\∀(i:Nat) x ws,xs[i]? =some x->wss[i]? =some ws->p.r E ws x
theorem OL.M{α:Type}{e:TypeId}{p:Rp α}{E E':LH}{a:Option Addr}{c:Nat}{seg:Seg}{xs:List α}(h:OL e p E a c seg xs)(hle:Le E E'):OL e p E' a c seg xs:=
 let ⟨wss,K,O,U⟩:=h;⟨wss,K,O,λi x ws Y hw=>p.M hle (U i x ws Y hw)⟩
theorem OL.nil{α:Type}{e:TypeId}{p:Rp α}{E:LH}:OL e p E none 0 [] []:=⟨[],GS.nil,V,λi x ws K=>by simp at K⟩
theorem IM{α:Type}{p:Rp α}{E:LH}{wss:List (Lv_)}{xs:List α}(K:wss.length=xs.length)(h:∀(i:Nat) x ws,xs[i]? =some x->wss[i]? =some ws->p.r E ws x):∀ws∈wss,ws.length=p.n:=λws hw=>by
 obtain⟨i,hi⟩:=List.mem_iff_getElem?.1 hw
 have O:i<xs.length:=by rw [← K];exact(List.getElem?_eq_some_iff.1 hi).1
 exact p.len (h i _ ws (List.getElem?_eq_getElem O) hi)
theorem K9{α:Type}{n:Nat}:∀{wss:List (List α)},(∀ws∈wss,ws.length=n)->∀{i:Nat} {ws:List α},wss[i]? =some ws->∀j w,ws[j]? =some w->wss.flatten[i*n+j]? =some w
 | [],_,_,_,h,_,_,_=>by simp at h
 | us::wss,O,0,ws,h,j,w,K=>by
  simp at h;subst h
  have:j<us.length:=(List.getElem?_eq_some_iff.1 K).1
  simp only [List.flatten_cons,Nat.zero_mul,Nat.zero_add]
  rw [List.getElem?_append_left this];exact K
 | us::wss,O,i+1,ws,h,j,w,K=>by
  simp at h
  have hu:us.length=n:=O us (by simp)
  simp only [List.flatten_cons]
  rw [List.getElem?_append_right (by rw [hu,Nat.succ_mul];omega)]
  have e:(i+1)*n+j - us.length=i*n+j:=by rw [hu,Nat.succ_mul];omega
  rw [e];exact K9 (λws hw=>O ws (List.mem_cons_of_mem _ hw)) h j w K
variable {ρ:Operand->Value}{z:Operand}{kd':IntKind}{m':Int}
section
variable {x:Operand}{v:Value}{m:Int}{a b:Nat}
theorem MA{a:Nat}:IntKind.u64.wrap (a:Int)=((a % 2 ^ 64:Nat):Int):=by
 simp only [IntKind.wrap,IntKind.bits,IntKind.signed];simp
theorem cJ(K:ρ x= .int .u64 (a:Int))(O:ρ y= .int .u64 (b:Int)):Yl P ⟨d,.binOp .add t x y u,ty,p,af,g⟩ ρ s (.int .u64 (((a+b) % 2 ^ 64:Nat):Int)):=by
 have h:=Yl.add (P:=P) (s:=s) (d:=d) (t:=t) (u:=u) (ty:=ty) (p:=p) (af:=af) (g:=g) K O;rw [show((a:Int)+(b:Int))=((a+b:Nat):Int) by omega,MA] at h;exact h
theorem OJ(K:ρ x= .int .u64 (a:Int))(O:ρ y= .int .u64 (b:Int)):Yl P ⟨d,.binOp .mul t x y u,ty,p,af,g⟩ ρ s (.int .u64 (((a*b) % 2 ^ 64:Nat):Int)):=by
 have h:=Yl.mul (P:=P) (s:=s) (d:=d) (t:=t) (u:=u) (ty:=ty) (p:=p) (af:=af) (g:=g) K O;rw [show((a:Int)*(b:Int))=((a*b:Nat):Int) by rw [Int.natCast_mul],MA] at h;exact h
theorem Ll(K:ρ x= .int .u64 (a:Int))(O:ρ y= .int .u64 (b:Int)):Yl P ⟨d,.binOp .xor t x y u,ty,p,af,g⟩ ρ s (.int .u64 (((a ^^^ b) % 2 ^ 64:Nat):Int)):=by
 have h:=Yl.xor (P:=P) (s:=s) (d:=d) (t:=t) (u:=u) (ty:=ty) (p:=p) (af:=af) (g:=g) K O;have e:(BitVec.ofInt IntKind.u64.bits (a:Int) ^^^ BitVec.ofInt IntKind.u64.bits (b:Int)).toNat=(a ^^^ b) % 2 ^ 64:=by
  rw [Nat.xor_mod_two_pow];rw [BitVec.ofInt_natCast,BitVec.ofInt_natCast];show(BitVec.ofNat 64 a ^^^ BitVec.ofNat 64 b).toNat=_;rw [BitVec.toNat_xor,BitVec.toNat_ofNat,BitVec.toNat_ofNat]
 rw [e,MA,Nat.mod_mod] at h;exact h
theorem dB(K:ρ x= .int .u64 (a:Int))(O:ρ y= .int .u64 (b:Int))(U:b≠0):Yl P ⟨d,.binOp .rem t x y u,ty,p,af,g⟩ ρ s (.int .u64 ((a % b:Nat):Int)):=by
 have h:=Yl.rem (P:=P) (s:=s) (d:=d) (t:=t) (u:=u) (ty:=ty) (p:=p) (af:=af) (g:=g) K O (by omega);rw [show(a:Int).tmod (b:Int)=((a % b:Nat):Int) from rfl] at h;exact h
theorem Li(c:Nat)(K:ρ x= .int .u64 (a:Int))(O:ρ y= .int .u64 (c:Int))(U:c<=64):Yl P ⟨d,.binOp .shr t x y u,ty,p,af,g⟩ ρ s (.int .u64 ((a>>>c:Nat):Int)):=by
 have h:=Yl.shr (P:=P) (s:=s) (d:=d) (t:=t) (u:=u) (ty:=ty) (p:=p) (af:=af) (g:=g) K O (by omega);have e:min (c:Int).toNat IntKind.u64.bits=c:=by simp [IntKind.bits];omega
 rw [e,Int.fdiv_eq_ediv_of_nonneg _ (Int.pow_nonneg (by decide))] at h;have e2:(a:Int) / 2 ^ c=((a>>>c:Nat):Int):=by rw [Nat.shiftRight_eq_div_pow,Int.natCast_ediv];rfl
 rw [e2] at h;exact h
def Cv(m:Int):Nat:=(m % 2 ^ 64).toNat
def JE(a:Nat):Int:=IntKind.i64.wrap (a:Int)
theorem Yl.Cv(K:P.underlying t=some (.int .i64))(hu:P.underlying u=some (.int .u64))(O:ρ x=iV m):Yl P ⟨d,.convert t u x,ty,p,af,g⟩ ρ s (.int .u64 ((Cv m:Nat):Int)):=by
 have h:=FE (P:=P) (s:=s) (d:=d) (ty:=ty) (p:=p) (af:=af) (g:=g) K hu O
 have e:IntKind.u64.wrap m=((Pal.Cv m:Nat):Int):=by
  unfold Pal.Cv;simp only [IntKind.wrap,IntKind.bits,IntKind.signed];simp;omega
 rw [e] at h;exact h
theorem Wl(K:P.underlying t=some (.int .u64))(hu:P.underlying u=some (.int .i64))(O:ρ x= .int .u64 (a:Int)):Yl P ⟨d,.convert t u x,ty,p,af,g⟩ ρ s (iV (JE a)):=
 FE (P:=P) (s:=s) (d:=d) (ty:=ty) (p:=p) (af:=af) (g:=g) K hu O
theorem Dy{r:Int}(K:ρ x=iV m)(O:ρ y=iV m')(h:Av (m+m')=some r):Yl P ⟨d,.binOp .add t x y u,ty,p,af,g⟩ ρ s (iV r):=by
 obtain⟨rfl,hb⟩:=L4 h;exact bI K O hb
theorem El{r:Int}(K:ρ x=iV m)(O:ρ y=iV m')(h:Av (m - m')=some r):Yl P ⟨d,.binOp .sub t x y u,ty,p,af,g⟩ ρ s (iV r):=by
 obtain⟨rfl,hb⟩:=L4 h;exact dR K O hb
theorem Lj{r:Int}(K:ρ x=iV m)(O:ρ y=iV m')(h:Av (m*m')=some r):Yl P ⟨d,.binOp .mul t x y u,ty,p,af,g⟩ ρ s (iV r):=by
 obtain⟨rfl,hb⟩:=L4 h;exact cG K O hb
theorem HC{r:Int}(K:ρ x=iV m)(h:Av (-m)=some r):Yl P ⟨d,.unOp .neg t x,ty,p,af,g⟩ ρ s (iV r):=by
 obtain⟨rfl,hb⟩:=L4 h;exact dC K hb
theorem Ig(K:ρ x= .int kd m)(O:ρ y= .int kd m'):Yl P ⟨d,.binOp .neq t x y u,ty,p,af,g⟩ ρ s (.bool (decide (m≠m'))):=by
 have h:=Yl.neq (P:=P) (s:=s) (d:=d) (t:=t) (u:=u) (ty:=ty) (p:=p) (af:=af) (g:=g) K O;simpa using h
theorem Kw{q:Prop} [Decidable q] (K:ρ x= .bool (decide q)):Yl P ⟨d,.unOp .not t x,ty,p,af,g⟩ ρ s (.bool (decide (¬q))):=by
 have h:=Yl.not (P:=P) (s:=s) (d:=d) (t:=t) (ty:=ty) (p:=p) (af:=af) (g:=g) K;simpa using h
theorem QI{ps:Array (Nat×Operand)}:execOp ρ ⟨d,.build t ps,ty,p,af,g⟩=(do pure (Next.value (← Instr.build t (ps.map λ(j,x)=>(j,ρ x))))):=by
 simp only [execOp]
theorem Yl.build{z:Value}{K:Array Field}{ps:Array (Nat×Operand)}{vs:List (Nat×Value)}{places:Array (Nat×Nat)}{cells:Av_}(Y:zeroOf P t=some z)(Z:P.underlying t=some (.struct K))(ac:K.toList.mapM (λf=>(By P f.type).map λn=>(f.offset,n))=some places.toList)
  (ag:ps.toList.map (λ(j,x)=>(j,ρ x))=vs) (al:Instr.fill (places[·]?) z.cells vs=some cells):Yl P ⟨d,.build t ps,ty,p,af,g⟩ ρ s (.agg cells):=by
 refine FM QI ?_;unfold Instr.build;refine Ay (x:=zeroValue t) _ (H8 Y ?_);refine Ay _ _ (Cx Z ?_);simp only;have key:∀(l:List Field) (acc:List (Nat×Nat)) {Q:List (Nat×Nat)->St->Prop} {X:Halt->St->Prop} (ps:List (Nat×Nat)),l.mapM (λf=>(By P f.type).map λn=>(f.offset,n))=some ps->Q (acc.reverse++ps) s->lp P (List.mapM.loop (m:=Sem) (λf=>do pure (f.offset,← Go.sizeOf f.type)) l acc) s Q X:=by
  intro l
  induction l with
  | nil=>
   intro acc Q X ps h k;simp at h;subst h;simp only [List.append_nil] at k;exact k
  | cons f l am=>
   intro acc Q X ps h k;simp only [List.mapM_cons,bind] at h;cases O:By P f.type with
   | none=>rw [O] at h;simp at h
   | some n=>
    rw [O] at h;simp only [Option.map_some,Option.bind_some] at h;obtain⟨ap,aq,U⟩:=bind_some h;simp at U;subst U;have:=am ((f.offset,n)::acc) (Q:=Q) (X:=X) ap aq (by simpa using k);simp only [List.mapM.loop];exact Ay _ _ (Ay (x:=Go.sizeOf f.type) _ (Fh O this))
 have e:(ps.map λ(j,x)=>(j,ρ x)).toList=vs:=by rw [← ag,Array.toList_map]
 refine Ay _ _ ?_;rw [Array.mapM_eq_mapM_toList];refine Ay (x:=List.mapM.loop (m:=Sem) (λf=>do pure (f.offset,← Go.sizeOf f.type)) K.toList []) (f:=λr=>pure r.toArray) (key K.toList [] places.toList ac ?_)
 simp only [List.reverse_nil,List.nil_append,lp,pure];rw [e,al];exact⟨V,V⟩
end
variable {S:List Seg}
section
variable {b:Frame}{n:Nat}
variable {x:Operand}{v:Value}{i:Nat}
theorem JS.box(O:ops[i]? =some ⟨d,.box e x,ty,p,af,g⟩)(hw:AY L ops ⟨d,.box e x,ty,p,af,g⟩=some true)(U:BU b n ⟨d,.box e x,ty,p,af,g⟩=true)(Y:Au E H S)(Z:ev L x=some v)
  (h:∀r,Au E H (S++ [[(r,.cells v.cells e (0,0))]])->JL J Q b n (AB L d (.pointer (some ⟨r,0,none⟩))) ds (.inRegion ops rest::k) cs (Ak E H (S++ [[(r,.cells v.cells e (0,0))]]))):
  JL J Q b n L ds (.inRegion ops (i::rest)::k) cs (Ak E H S):=
 JL.box O hw U Y Z λr K=>by rw [(FN K).1];exact h r (FN K).2
theorem JS.alloc{z:Value}(O:ops[i]? =some ⟨d,.alloc e,ty,p,af,g⟩)(hw:AY L ops ⟨d,.alloc e,ty,p,af,g⟩=some true)(U:BU b n ⟨d,.alloc e,ty,p,af,g⟩=true)(Y:Au E H S)(Z:zeroOf P e=some z)
  (h:∀r,Au E H (S++ [[(r,.cells z.cells e (0,0))]])->JL J Q b n (AB L d (.pointer (some ⟨r,0,none⟩))) ds (.inRegion ops rest::k) cs (Ak E H (S++ [[(r,.cells z.cells e (0,0))]]))):
  JL J Q b n L ds (.inRegion ops (i::rest)::k) cs (Ak E H S):=
 JL.alloc O hw U Y Z λr K=>by rw [(FN K).1];exact h r (FN K).2
theorem JS.store{bk off:Nat}{c:Av_}(j:Nat)(U:ops[i]? =some ⟨d,.store t x y,ty,p,af,g⟩)(hw:AY L ops ⟨d,.store t x y,ty,p,af,g⟩=some true)(Y:BU b n ⟨d,.store t x y,ty,p,af,g⟩=true)(Z:Au E H S)
  (ac:ev L x=some (.pointer (some ⟨bk,off,none⟩))) (ag:ev L y=some v) (al:By P t=some v.cells.size) (am:∀u∈v.cells.toList,C5 u=true) (K:S[j]? =some [(bk,.cells c e (0,0))]) (hle:off+v.cells.size<=c.size)
  (h:Au E H (S.set j [(bk,.cells (A9 c off v.cells.toList) e (0,0))])->JL J Q b n (AB L d undef) ds (.inRegion ops rest::k) cs (Ak E H (S.set j [(bk,.cells (A9 c off v.cells.toList) e (0,0))]))):
  JL J Q b n L ds (.inRegion ops (i::rest)::k) cs (Ak E H S):=by
 obtain⟨ap,aq⟩:=Hg Z K;rw [ap];refine JL.store (S.set j []).flatten.length U hw Y aq ac ag al am (c:=c) (e:=e) (by simp) hle λO=>?_;have av:((S.set j []).flatten++ [(bk,Obj.cells c e (0,0))]).set (S.set j []).flatten.length (bk,.cells (A9 c off v.cells.toList) e (0,0))=(S.set j []).flatten++ [(bk,.cells (A9 c off v.cells.toList) e (0,0))]:=Jl _ _ _ _;rw [av] at O ⊢;obtain⟨aw,ay⟩:=Jp K O;rw [aw];exact h ay
theorem JS.drop{todo:Li_}{seg:Seg}(j:Nat)(Y:Au E H S)(K:S[j]? =some seg)(h:Au E H (S.set j [])->JL J Q b n L ds todo cs (Ak E H (S.set j []))):JL J Q b n L ds todo cs (Ak E H S):=by
 obtain⟨Z,O⟩:=Hg Y K;rw [Z];have ac:Nd E H ((S.set j []).flatten++ []):=by rw [List.append_nil];exact Lb.Nd.left O
 obtain⟨U,ag⟩:=Jp (seg':= []) K ac;refine JL.drop (S.set j []).flatten (λq al=>List.mem_iff_getElem?.1 (List.mem_append_left _ al)) O ?_;have am:(S.set j []).flatten++ []=(S.set j []).flatten:=List.append_nil _;rw [am] at U;rw [U];exact h ag
theorem Df{todo:Li_}{bk:Nat}{c:Av_}{f:Nat×Nat}(j:Nat)(O:Au E H S)(U:S[j]? =some [(bk,.cells c e f)])
  (h:∀E',Le E E'->At E' bk 0 c.toList->Au E' H (S.set j [])->JL J Q b n L ds todo cs (Ak E' H (S.set j []))):JL J Q b n L ds todo cs (Ak E H S):=by
 obtain⟨Y,Z⟩:=Hg O U;rw [Y];have ac:((S.set j []).flatten++ [(bk,Obj.cells c e f)])[(S.set j []).flatten.length]? =some (bk,Obj.cells c e f):=by simp
 refine JL.freeze (S.set j []).flatten.length Z ac λE' hle ag K=>?_;have al:((S.set j []).flatten++ [(bk,Obj.cells c e f)]).eraseIdx (S.set j []).flatten.length=(S.set j []).flatten:=by rw [List.eraseIdx_append_of_length_le (Nat.le_refl _)];simp
 rw [al] at K ⊢;exact h E' hle ⟨_,_,_,ag,λi w hi=>by simpa using hi⟩ K
theorem Cp{α:Type}{pp:Rp α}{todo:Li_}{a:Option Addr}{c:Nat}{seg:Seg}{xs:List α}(j:Nat)(U:OL e pp E a c seg xs)(am:Au E H S)(ap:S[j]? =some seg)
  (h:∀E',Le E E'->Ao pp E' a c xs->Au E' H (S.set j [])->JL J Q b n L ds todo cs (Ak E' H (S.set j []))):JL J Q b n L ds todo cs (Ak E H S):=by
 obtain⟨wss,U,ac,ag⟩:=U;have aq:∀ad:Addr,a=some ad->ad.spot=none:=λad K=>by
  rcases U with⟨O,_⟩ | ⟨bk,f,O,_⟩
  .rw [O] at K;cases K
  .rw [O] at K;cases K;rfl
 obtain⟨O,av⟩:=Hg am ap;rw [O];refine XE U av λE' hle aw ay=>h E' hle ?_ ay;obtain⟨az,a0,Y,a1,a6,Z⟩:=aw;obtain⟨rfl,-,rfl⟩:a=az/\xs.length=xs.length/\c=a0:=by
  simp only [Value.slice.injEq] at Y;exact⟨Y.1,V,Y.2.2⟩
 refine⟨a1,?_⟩;rcases Z with Z | ⟨bk,off,f,a2,fr,a3,g2,a4⟩
 .exact .inl ⟨List.eq_nil_of_length_eq_zero Z,λad K=> .inl (aq ad K)⟩
 .refine .inr ⟨bk,off,a3,λi x al=>?_⟩;have a5:i<wss.length:=by rw [ac];exact(List.getElem?_eq_some_iff.1 al).1
  have hw:=List.getElem?_eq_getElem a5;refine⟨wss[i],pp.M hle (ag i x _ al hw),f,a2,fr,g2,λm w hm=>?_⟩;rw [Nat.add_assoc];exact a4 _ w (K9 (IM ac ag) hw m w hm)
theorem XI{α:Type}{pp:Rp α}{wss:List (Lv_)}{xs:List α}{x:α}{ws:Lv_}(O:wss.length=xs.length)(h:∀(i:Nat) x ws,xs[i]? =some x->wss[i]? =some ws->pp.r E ws x)(U:pp.r E ws x):
  ∀(i:Nat) y us,(xs++ [x])[i]? =some y->(wss++ [ws])[i]? =some us->pp.r E us y:=by
 intro i y us K hu;rcases Nat.lt_or_ge i xs.length with hi | hi
 .rw [List.getElem?_append_left hi] at K;rw [List.getElem?_append_left (by omega)] at hu;exact h i y us K hu
 .rw [List.getElem?_append_right hi] at K;rw [List.getElem?_append_right (by omega),O] at hu;cases hm:i - xs.length with
  | zero=>rw [hm] at K hu;simp at K hu;subst K hu;exact U
  | succ m=>rw [hm] at K;simp at K
theorem XT{α:Type}{pp:Rp α}{t1 t2:TypeId}{U c:Nat}{a:Option Addr}{seg:Seg}{xs:List α}{xv:α}{am:Nat}{d1:Tmp}{ats:Array TypeId}{Y:TypeId}{Z:String}{ac:Ae_}{g':On_}{z:Value}(j:Nat)
  (av:ops[i]? =some ⟨some d1,.buildSlice t2 1 #[(0,y)],Y,Z,ac,g'⟩) (hw:AY L ops ⟨some d1,.buildSlice t2 1 #[(0,y)],Y,Z,ac,g'⟩=some true) (aw:BU b n ⟨some d1,.buildSlice t2 1 #[(0,y)],Y,Z,ac,g'⟩=true)
  (ay:ops[am]? =some ⟨d,.call ⟨.builtin .append,#[x,.tmp d1],ats⟩,ty,p,af,g⟩) (az:∀w,AY (AB L (some d1) w) ops ⟨d,.call ⟨.builtin .append,#[x,.tmp d1],ats⟩,ty,p,af,g⟩=some true) (a0:BU b n ⟨d,.call ⟨.builtin .append,#[x,.tmp d1],ats⟩,ty,p,af,g⟩=true)
  (a1:∀w,ev (AB L (some d1) w) x=some (.slice a xs.length c)) (a2:ev L y=some v) (a3:ats[0]? =some t) (a4:ats[1]? =some t1) (a5:P.underlying t=some (.slice e)) (a6:P.underlying t1=some (.slice e)) (a7:P.underlying t2=some (.slice e)) (a8:By P e=some pp.n) (hb:F4 P e=some U) (a9:zeroOf P e=some z) (bb:z.cells.size=pp.n)
  (be:0<U) (bi:U<=64) (bn:0<pp.n) (bo:pp.n<=64) (bv:xs.length+1<=2 ^ 40) (ag:OL e pp E a c seg xs) (al:pp.r E v.cells.toList xv) (bw:Au E H S) (ap:S[j]? =some seg)
  (h:∀w K O seg',OL e pp E K O seg' (xs++ [xv])->Au E H (S.set j seg')->JL J Q b n (AB (AB L (some d1) w) d (.slice K (xs++ [xv]).length O)) ds (.inRegion ops rest::k) cs (Ak E H (S.set j seg'))):
  JL J Q b n L ds (.inRegion ops (i::am::rest)::k) cs (Ak E H S):=by
 obtain⟨wss,ag,aq,bx⟩:=ag;obtain⟨bz,b0⟩:=Hg bw ap;rw [bz];have b1:v.cells.size=pp.n:=by simpa using pp.len al
 refine X4 av hw aw ay az a0 a1 a2 a3 a4 a5 a6 a7 a8 hb a9 bb be bi b1 bn bo bv (pp.one al) ag b0 λw K O b2 b3 b4=>?_;obtain⟨b5,b6⟩:=Jp ap b4;rw [b5];have hlen:(xs++ [xv]).length=xs.length+1:=by simp
 have:=h w K O b2 ⟨wss++ [v.cells.toList],by rw [hlen,List.flatten_append];simpa using b3,by simp [aq],XI aq bx al⟩ b6;rw [hlen] at this;exact this
theorem UO{α:Type}{pp:Rp α}{a:Option Addr}{c:Nat}{xs:List α}{xv:α}{m:Int}(O:Ao pp E a c xs)(hm:ix xs m=some xv)
  (U:ops[i]? =some ⟨d,.indexAddr t x y,ty,p,af,g⟩) (hw:AY L ops ⟨d,.indexAddr t x y,ty,p,af,g⟩=some true) (Y:BU b n ⟨d,.indexAddr t x y,ty,p,af,g⟩=true)
  (Z:ev L x=some (.slice a xs.length c)) (ac:ev L y=some (.int kd m)) (ag:P.underlying t=some (.slice e)) (al:By P e=some pp.n)
  (h:∀bk o ws,pp.r E ws xv->At E bk o ws->JL J Q b n (AB L d (.pointer (some ⟨bk,o,none⟩))) ds (.inRegion ops rest::k) cs (Ak E H S)):
  JL J Q b n L ds (.inRegion ops (i::rest)::k) cs (Ak E H S):=by
 obtain⟨m,rfl,hm⟩:=Gi hm;have am:m<xs.length:=(List.getElem?_eq_some_iff.1 hm).1;obtain⟨aw,⟨rfl,_⟩ | ⟨bk,off,rfl,ap⟩⟩:=O
 .simp at am
 obtain⟨ws,aq,av⟩:=ap m xv hm;refine Be (v:= .pointer (some ⟨bk,off+m*pp.n,none⟩)) U hw Y (λρ K=>?_) (h bk _ ws aq av);have:=MY (P:=P) (s:=Ak E H S) (d:=d) (ty:=ty) (p:=p) (af:=af) (g:=g) ag al (K x _ Z) (K y _ ac) ⟨by omega,by omega⟩;rw [Ek rfl] at this;simpa using this
theorem At.J6{bk o j:Nat}{ws:Lv_}{w:Value}(h:At E bk o ws)(K:ws[j]? =some w):(Ak E H S).cell? ⟨bk,o+j,none⟩=some w:=h.cell K
theorem At.RQ{bk o:Nat}{ws:Lv_}(h:At E bk o ws):∀j v,ws[j]? =some v->(Ak E H S).cell? (Addr.add ⟨bk,o,none⟩ j)=some v:=h.cells
theorem Bx{todo:Li_}(I:Env->St->Prop){c:Code}(K:∀L s,I L s->JL J Q b n L ds todo cs s)(h:(∀L s,I L s->JL J Q b n L ds todo cs s)->JL J Q b n L ds (.code c::todo) cs s):JL J Q b n L ds (.code c::todo) cs s:=h K
theorem Ib{K:List Nat}{todo:Li_}(l:List Nat)(I:Env->St->Prop)(O:∀L s,I L s->JL J Q b n L ds (.inRegion ops l::todo) cs s)(h:(∀L s,I L s->JL J Q b n L ds (.inRegion ops l::todo) cs s)->JL J Q b n L ds (.inRegion ops K::todo) cs s):JL J Q b n L ds (.inRegion ops K::todo) cs s:=h O
theorem T0{K A:Type}{c:Code}{body:K->Option (Br K A)}{f:Nat}{O:K}{a:A}(U:iter body f O=some a)(I:Env->St->K->Prop)(Z:I L s O)
  (round:∀L s x,I L s x->(∀Y,body x=some (.done Y)->Y=a)->(∃st,body x=some st)->(∀L' s' x',I L' s' x'->body x=some (.more x')->JL J Q b n L' ds (.inLoop c::k) cs s')->JL J Q b n L ds (.code c:: .inLoop c::k) cs s):
  JL J Q b n L ds (.code (.loop c)::k) cs s:=by
 refine II ?_
 induction f generalizing L s O with
 | zero=>cases U
 | succ f ac=>
  refine round L s O Z (λY h=>Tw U h) (TX U) λL' s' x' ag hb=>JL.again (ac (TV U hb) ag)
def AT(J:Judge P)(f:FuncId)(args:Lv_)(E:LH)(B:Seg)(R:Value->LH->Seg->Prop):Prop:=
 ∀H,Nd E H B->EW J f args.toArray (mk E H B) (λv s'=>∃E' B',Le E E'/\R v E' B'/\Nd E' H B'/\s'=mk E' H B')
theorem AT.enter{f:FuncId}{fn:Func}{c:Code}{vs:Lv_}{B:Seg}{R:Value->LH->Seg->Prop}(O:P.funcs[f]? =some fn)(hb:fn.body=some c)(U:vs.length<=fn.ntmps)
  (h:∀(Q:Gs_) (K:Frame) (cs:Lf_) (H:LH),Au E H [B]->(∀v E' S' B',Le E E'->S'.flatten=B'->R v E' B'->Au E' H S'->J.ok Q (G (K.finish v) cs) (Ak E' H S'))->JL J Q (base f) fn.ntmps (GB 0 vs) [] [.code c] (K::cs) (Ak E H [B])):AT J f vs E B R:=λH Y=>
 EW.enter O hb U λQ K cs Z=>by
  have ac:mk E H B=Ak E H [B]:=by unfold Ak;simp
  rw [ac];exact h Q K cs H (by unfold Au;simpa using Y) λv E' S' B' hle ag al am=>by
   subst ag;exact Z v _ ⟨E',S'.flatten,hle,al,am,rfl⟩
theorem AT.M{f:FuncId}{vs:Lv_}{B:Seg}{R K:Value->LH->Seg->Prop}(h:AT J f vs E B R)(U:∀v E' B',Le E E'->R v E' B'->K v E' B'):AT J f vs E B K:=λH Y=>
 (h H Y).M λv s' ⟨E',B',O,Z,ac,ag⟩=>⟨E',B',O,U v E' B' O Z,ac,ag⟩
theorem F0{H:LH}:∀{A B:List (Nat×Obj)},Bq (A++B) H=Bq A (Bq B H)
 | [],_=>rfl
 | (c,o)::A,B=>by
  funext x
  simp only [List.cons_append,Bq]
  split
  .rfl
  .rw [F0]
theorem Ou{H:LH}{x:Nat}:∀{B:List (Nat×Obj)},(∀p∈B,p.1≠x)->Bq B H x=H x
 | [],_=>rfl
 | (c,u)::B,K=>by
  have O:x≠c:=λe=>K (c,u) (by simp) e.symm
  simp only [Bq,if_neg O]
  exact Ou λp U=>K p (List.mem_cons_of_mem _ U)
theorem Nd.front{A B:List (Nat×Obj)}(h:Nd E H (A++B)):Nd E (Bq B H) A:=by
 rw [Nd.iff] at h ⊢;obtain⟨K,U⟩:=h;rw [List.map_append,List.nodup_append] at K;refine⟨K.1,λq O=>⟨(U q (List.mem_append_left _ O)).1,?_⟩⟩;rw [Ou λr Y e=>K.2.2 q.1 (List.mem_map_of_mem O) r.1 (List.mem_map_of_mem Y) e.symm];exact(U q (List.mem_append_left _ O)).2
theorem Nd.glue{A B:List (Nat×Obj)}(h:Nd E (Bq B H) A)(U:Nd E H B):Nd E H (A++B):=by
 have Y:=U;rw [Nd.iff] at h U ⊢;rw [List.map_append,List.nodup_append];have key:∀q∈A,∀r∈B,q.1≠r.1:=λq K r O e=>by
  have:=(h.2 q K).2;rw [e] at this;obtain⟨i,hi⟩:=Y.mem (b:=r.1) (o:=r.2) O;rw [J0 Y hi] at this;cases this
 refine⟨⟨h.1,U.1,λx Z y ac e=>?_⟩,λq K=>?_⟩
 .obtain⟨q,K,rfl⟩:=List.mem_map.1 Z;obtain⟨r,O,rfl⟩:=List.mem_map.1 ac;exact key q K r O e
 .rcases List.mem_append.1 K with K | K
  .refine⟨(h.2 q K).1,?_⟩;have:=(h.2 q K).2
   rwa [Ou λr O e=>key q K r O e.symm] at this
  .exact U.2 q K
theorem T5{f:FuncId}{args:Array Operand}{ats:Array TypeId}{vs:Lv_}{seg:Seg}{R:Value->LH->Seg->Prop}(j:Nat)
  (ag:AT J f vs E seg R) (al:ops[i]? =some ⟨d,.call ⟨.value (.func f),args,ats⟩,ty,p,af,g⟩) (hw:AY L ops ⟨d,.call ⟨.value (.func f),args,ats⟩,ty,p,af,g⟩=some true) (am:((b.kind != .early)&&Bu n d)=true) (hb:Ec P f=true)
  (ap:evs L args.toList=some vs) (K:Au E H S) (O:S[j]? =some seg) (aq:∀v E' seg',Le E E'->R v E' seg'->Au E' H (S.set j seg')->JL J Q b n (AB L d v) ds (.inRegion ops rest::k) cs (Ak E' H (S.set j seg'))):
  JL J Q b n L ds (.inRegion ops (i::rest)::k) cs (Ak E H S):=by
 have U:S.flatten.Perm (seg++(S.set j []).flatten):=(EG (seg':=seg) O).1.trans List.perm_append_comm;have Y:Nd E H (seg++(S.set j []).flatten):=Nd.perm K U;have av:Ak E H S=mk E (Bq (S.set j []).flatten H) seg:=by
  rw [show Ak E H S=mk E H S.flatten from rfl,Fs K U];unfold mk;rw [F0]
 rw [av];refine aW al hw am hb ap (ag _ (Nd.front Y)) ?_;rintro v s' ⟨E',B',hle,aw,ay,rfl⟩;have e2:mk E' (Bq (S.set j []).flatten H) B'=mk E' H (B'++(S.set j []).flatten):=by unfold mk;rw [F0]
 have az:Nd E H (S.set j []).flatten:=by
  have:=Y;rw [Nd.iff] at this ⊢;rw [List.map_append,List.nodup_append] at this;exact⟨this.1.2.1,λq a0=>this.2 q (List.mem_append_right _ a0)⟩
 refine U9 V λ⟨w,a1⟩=>?_;have a2:Nd E' H (S.set j []).flatten:=az.grow λx a3=>by
  have a4:=a1.d x a3;have a5:Bq B' (Bq (S.set j []).flatten H) x=none:=a4;exact(H7 a5).1
 have Z:Nd E' H (B'++(S.set j []).flatten):=Nd.glue ay a2;rw [e2];have ac:(B'++(S.set j []).flatten).Perm (S.set j B').flatten:=List.perm_append_comm.trans (EG O).2.symm;rw [Fs Z ac];exact aq v E' B' hle aw (Nd.perm Z ac)
theorem JS.call{f:FuncId}{args:Array Operand}{ats:Array TypeId}{vs:Lv_}{R:Value->LH->Seg->Prop}
  (U:AT J f vs E [] R) (Y:ops[i]? =some ⟨d,.call ⟨.value (.func f),args,ats⟩,ty,p,af,g⟩) (hw:AY L ops ⟨d,.call ⟨.value (.func f),args,ats⟩,ty,p,af,g⟩=some true) (Z:((b.kind != .early)&&Bu n d)=true) (hb:Ec P f=true)
  (ac:evs L args.toList=some vs) (K:Au E H S) (ag:∀v E' seg',Le E E'->R v E' seg'->Au E' H (S++ [seg'])->JL J Q b n (AB L d v) ds (.inRegion ops rest::k) cs (Ak E' H (S++ [seg']))):
  JL J Q b n L ds (.inRegion ops (i::rest)::k) cs (Ak E H S):=by
 have al:Ak E H S=Ak E H (S++ [[]]):=by unfold Ak;simp
 rw [al];refine T5 S.length U Y hw Z hb ac (by unfold Au at K ⊢;rw [Hc,List.append_nil];exact K) (by simp) λv E' seg' hle am O=>?_;have e2:(S++ [[]]).set S.length seg'=S++ [seg']:=Jl _ _ _ _;rw [e2] at O ⊢;exact ag v E' seg' hle am O
theorem IP{todo:Li_}{S':List Seg}(K:S'.flatten=S.flatten)(O:Au E H S)(h:Au E H S'->JL J Q b n L ds todo cs (Ak E H S')):JL J Q b n L ds todo cs (Ak E H S):=by
 unfold Ak Au at*;rw [K] at h;exact h O
end
def Ld(P:Program)(t:TypeId)(a:Addr)(s:St)(v:Value):Prop:=lp P (loadVar t a) s (λu s'=>u=v/\s'=s) (λ_ _=>False)
theorem Ld.one{P:Program}{t:TypeId}{a:Addr}{s:St}{v:Value}(K:DU P t=some false)(h:s.cell? a=some v):Ld P t a s v:=Tb K h ⟨V,V⟩
theorem Ld.many{P:Program}{t:TypeId}{a:Addr}{s:St}{vs:Lv_}(K:DU P t=some true)(O:By P t=some vs.length)(h:∀j v,vs[j]? =some v->s.cell? (a.add j)=some v):Ld P t a s (.agg vs.toArray):=S6 K O h ⟨V,V⟩
def RV(P:Program)(L:Env)(s:St):List ResultVar->Lv_->Prop
 | [],[]=>True
 | .tmp t::rs,v::vs=>look L t=some v/\RV P L s rs vs
 | .cell a t::rs,v::vs=>(∃ad,look L a=some (.pointer (some ad))/\Ld P t ad s v)/\RV P L s rs vs
 | _,_=>False
def Pd:Lv_->Value
 | [v]=>v
 | vs=> .tuple vs.toArray
theorem XR(vs:Lv_):(if h:vs.toArray.size=1 then vs.toArray[0] else Value.tuple vs.toArray)=Pd vs:=by
 match vs with
 | []=>rfl
 | [v]=>rfl
 | a::b::c=>simp [Pd]
theorem BK.list{P:Program}{f:FuncId}{fn:Func}{n:Nat}{L:Env}{s:St}{rs:List ResultVar}{vs:Lv_}(Z:P.funcs[f]? =some fn)(ac:fn.results.toList=rs)(h:RV P L s rs vs):BK P f L n s (Pd vs):=by
 refine⟨fn,Z,λT U=>?_⟩;unfold results;rw [Array.mapM_eq_mapM_toList,ac];have key:∀(rs:List ResultVar) (acc vs:Lv_) {Q:Lv_->St->Prop} {X:Halt->St->Prop},RV P L s rs vs->Q (acc.reverse++vs) s->lp P (List.mapM.loop (m:=Sem) (λr=>match r with
   | .tmp t=>pure (T.getD t undef)
   | .cell a t=>do loadVar t (← asAddr (T.getD a undef))) rs acc) s Q X:=by
  intro rs
  induction rs with
  | nil=>
   intro acc vs Q X h k;cases vs with
   | nil=>simp only [List.append_nil] at k;exact k
   | cons v vs=>cases h
  | cons r rs Y=>
   intro acc vs Q X h k;cases vs with
   | nil=>cases r <;> cases h
   | cons v vs=>
    cases r with
    | tmp t=>
     obtain⟨K,O⟩:=h;have:=U.at_ t v K;simp only [List.mapM.loop];rw [this];exact Y (v::acc) vs O (by simpa using k)
    | cell a t=>
     obtain⟨⟨ad,K,ag⟩,O⟩:=h;have:=U.at_ a _ K;simp only [List.mapM.loop];rw [this];refine Ay _ _ (Er _ (show lp P (loadVar t ad) s _ _ from ag) ?_ (λ_ _ h=>h.elim));rintro u s' ⟨rfl,rfl⟩;exact Y (u::acc) vs O (by simpa using k)
 refine Ay _ _ (Ay (x:=List.mapM.loop (m:=Sem) _ rs []) (f:=λr=>pure r.toArray) ?_);refine key rs [] vs h ?_;simp only [List.reverse_nil,List.nil_append,lp,pure];exact⟨XR vs,trivial⟩
section
variable {g:Goroutine}
theorem EO{seg:Seg}(j:Nat)(Z:Au E H S)(U:S[j]? =some seg)(h:Au E H (S.set j [])->J.ok Q g (Ak E H (S.set j []))):J.ok Q g (Ak E H S):=by
 obtain⟨ac,K⟩:=Hg Z U;have ag:Nd E H ((S.set j []).flatten++ []):=by rw [List.append_nil];exact Lb.Nd.left K
 obtain⟨aq,al⟩:=Jp (seg':= []) U ag;refine J.ghost (s₀:=Ak E H (S.set j [])) ⟨λ_ _ h=>h,λx o am=>?_,λ_ _ h=> .inl h,V⟩ (h al);have Y:Bq (S.set j []).flatten H x=some o:=am;show(Ak E H S).H x=some o;rw [ac];show Bq ((S.set j []).flatten++seg) H x=some o;rw [show Bq ((S.set j []).flatten++seg) H=Bq (seg++(S.set j []).flatten) H from Tu K List.perm_append_comm,F0];by_cases hm:∃p∈seg,p.1=x
 .exfalso;obtain⟨p,O,e⟩:=hm;have ap:=Nd.front (Nd.perm K List.perm_append_comm);have:=((Nd.iff.1 ap).2 p O).2;rw [e,Y] at this;cases this
 .rw [Ou λp O e=>hm ⟨p,O,e⟩];exact Y
end
section
variable {b:Frame}{n:Nat}
variable {x:Operand}{v:Value}{i:Nat}
theorem TT{ρ:Operand->Value}{len:Nat}{ps:Array (Nat×Operand)}:execOp ρ ⟨d,.buildSlice t len ps,ty,p,af,g⟩=(do pure (Next.value (← Instr.buildSlice t len (ps.map λ(j,x)=>(j,ρ x))))):=by
 simp only [execOp]
theorem Ym(v:Av_)(off:Nat)(c:Av_):v.zipIdx.foldl (λcs (x,j)=>cs.setIfInBounds (off+j) x) c=A9 c off v.toList:=by
 rw [← Array.foldl_toList,Array.toList_zipIdx];have key:∀(l:Lv_) (st:Nat) (c:Av_),List.foldl (λcs (p:Value×Nat)=>cs.setIfInBounds (off+p.2) p.1) c (l.zipIdx st)=A9 c (off+st) l:=by
  intro l
  induction l with
  | nil=>intro st c;rfl
  | cons x l K=>intro st c;simp only [List.zipIdx_cons,List.foldl_cons,A9];rw [K];rfl
 exact key v.toList 0 c
def Lt(place:Nat->Option (Nat×Nat))(cells:Av_):List (Nat×Value)->Option (Av_)
 | []=>some cells
 | (i,v)::rest=>match place i with
  | none=>none
  | some (off,size)=>if v.cells.size=size/\off+v.cells.size<=cells.size then Lt place (A9 cells off v.cells.toList) rest else none
theorem fill_eq{place:Nat->Option (Nat×Nat)}:∀{vs:List (Nat×Value)} {cells:Av_},Instr.fill place cells vs=Lt place cells vs
 | [],_=>rfl
 | (i,v)::rest,cells=>by
  simp only [Instr.fill,Lt]
  cases place i with
  | none=>rfl
  | some q=>
   obtain⟨off,size⟩:=q
   simp only
   by_cases h:v.cells.size=size/\off+v.cells.size<=cells.size
   .rw [if_pos h,if_neg (by simp only [Bool.or_eq_true,decide_eq_true_eq,ne_eq];omega),fill_eq,Ym]
   .rw [if_neg h,if_pos (by simp only [Bool.or_eq_true,decide_eq_true_eq,ne_eq];omega)]
theorem UK{n:Nat}:∀(vs:Lv_) (st:Nat) (cells:Av_),(∀v∈vs,v.cells.size=n)->cells.size=(st+vs.length)*n->
  ∃U,Lt (λi=>some (i*n,n)) cells ((vs.zipIdx st).map λq=>(q.2,q.1))=some U/\U.toList=cells.toList.take (st*n)++(vs.map (·.cells.toList)).flatten
 | [],st,cells,_,K=>⟨cells,rfl,by simp only [List.length_nil,Nat.add_zero] at K;simp [← K,List.take_of_length_le]⟩
 | v::vs,st,cells,Y,K=>by
  have O:=Y v (by simp)
  have hle:st*n+n<=cells.size:=by
   rw [K,List.length_cons];have:(st+1)*n<=(st+(vs.length+1))*n:=Nat.mul_le_mul_right _ (by omega);rw [Nat.succ_mul] at this;exact this
  obtain⟨Z,ac,ag⟩:=UK vs (st+1) (A9 cells (st*n) v.cells.toList) (λu hu=>Y u (List.mem_cons_of_mem _ hu)) (by rw [MS,K,List.length_cons];congr 1;omega);refine⟨Z,?_,?_⟩
  .simp only [List.zipIdx_cons,List.map_cons,Lt];rw [if_pos ⟨O,by omega⟩];exact ac
  .rw [ag,Nat.succ_mul];have:=Qq cells (st*n) v.cells.toList (by simp [O];omega);rw [show v.cells.toList.length=n by simp [O]] at this;rw [this];simp
def Ly{α:Type}(pp:Rp α)(E:LH):List α->Lv_->Prop
 | [],[]=>True
 | x::xs,v::vs=>pp.r E v.cells.toList x/\Ly pp E xs vs
 | _,_=>False
theorem Ly.at{E:LH}{α:Type}{pp:Rp α}:∀{xs:List α} {vs:Lv_},Ly pp E xs vs->∀(i:Nat) x v,xs[i]? =some x->vs[i]? =some v->pp.r E v.cells.toList x
 | [],_,_,_,_,_,h,_=>by simp at h
 | _::_,[],h,_,_,_,_,_=>h.elim
 | x::xs,v::vs,h,0,y,u,K,hu=>by simp at K hu;subst K hu;exact h.1
 | x::xs,v::vs,h,i+1,y,u,K,hu=>Ly.at h.2 i y u (by simpa using K) (by simpa using hu)
theorem V0{E0:LH}{ρ:Operand->Value}{K:Next->St->Prop}(aw:Fa L ρ){α:Type}{pp:Rp α}{len:Nat}{ps:Array (Nat×Operand)}(vs:Lv_){z:Value}(xs:List α)
  (ay:P.underlying t=some (.slice e)) (az:By P e=some pp.n) (a0:zeroOf P e=some z) (a1:decide (0<len*pp.n/\len*pp.n<=2 ^ 24)=true)
  (a2:ps.toList.mapM (λq=>(ev L q.2).map λv=>(q.1,v))=some ((vs.zipIdx 0).map λq=>(q.2,q.1)))
  (U:vs.length=len) (Y:xs.length=len) (a3:Ly pp E0 xs vs) (a4:Au E H S)
  (h:∀r seg,OL e pp E0 (some ⟨r,0,none⟩) len seg xs->Au E H (S++ [seg])->K (.value (.slice (some ⟨r,0,none⟩) xs.length len)) (Ak E H (S++ [seg]))):
  lp P (execOp ρ ⟨d,.buildSlice t len ps,ty,p,af,g⟩) (Ak E H S) K (λ_ _=>False):=by
 have al:=a3.at;have a5:(ps.map λ(j,x)=>(j,ρ x)).toList=(vs.zipIdx 0).map λq=>(q.2,q.1):=by
  have key:∀(l:List (Nat×Operand)) (vs:List (Nat×Value)),l.mapM (λq=>(ev L q.2).map λv=>(q.1,v))=some vs->l.map (λ(j,x)=>(j,ρ x))=vs:=by
   intro l
   induction l with
   | nil=>intro vs h;simp at h;subst h;rfl
   | cons q l Z=>
    intro vs h;simp only [List.mapM_cons,bind] at h;cases ac:ev L q.2 with
    | none=>rw [ac] at h;simp at h
    | some w=>
     rw [ac] at h;simp only [Option.map_some,Option.bind_some] at h;obtain⟨a6,a7,am⟩:=bind_some h;simp at am;subst am;simp [Z a6 a7,aw _ _ ac]
  rw [Array.toList_map];exact key _ _ a2
 have ap:∀v∈vs,v.cells.size=pp.n:=λv O=>by
  obtain⟨i,hi⟩:=List.mem_iff_getElem?.1 O;have a8:i<xs.length:=by rw [Y,← U];exact(List.getElem?_eq_some_iff.1 hi).1
  simpa using pp.len (al i _ v (List.getElem?_eq_getElem a8) hi)
 rw [TT];refine Ay _ _ ?_;unfold Instr.buildSlice;refine Ay _ _ (Cx ay ?_);refine Ay _ _ (Fh az ?_);have be:=of_decide_eq_true a1;rw [if_neg (by omega),if_neg (by omega)];refine Ay (x:=zeroValue e) _ (H8 a0 ?_);rw [IG,a5];obtain⟨cells,a9,ag⟩:=UK vs 0 ((Array.range (len*pp.n)).map (z.cells[· % z.cells.size]!)) ap (by simp [U]);simp only [fill_eq,a9];simp only [Nat.zero_mul,List.take_zero,List.nil_append] at ag;refine Ay _ _ (JX a4 λr aq=>?_);rw [(FN aq).1];have av:cells.size=len*pp.n:=by
  have:cells.toList.length=len*pp.n:=by
   rw [ag];have:∀(vs:Lv_),(∀v∈vs,v.cells.size=pp.n)->(vs.map (·.cells.toList)).flatten.length=vs.length*pp.n:=by
    intro vs
    induction vs with
    | nil=>intro _;simp
    | cons v vs Z=>intro h;rw [List.map_cons,List.flatten_cons,List.length_append,Z λw hw=>h w (List.mem_cons_of_mem _ hw),List.length_cons,Nat.succ_mul,Nat.add_comm];simp [h v (by simp)]
   rw [this vs ap,U]
  simpa using this
 have:=h r [(r,.cells cells e (0,0))] ⟨vs.map (·.cells.toList),.inr ⟨r,cells,rfl,rfl,av,by omega,by rw [← ag,List.take_of_length_le (by simp [av,Y])]⟩,by simp [U,Y],λi x ws bb hw=>by
  rw [List.getElem?_map] at hw
  cases O:vs[i]? with
  | none=>rw [O] at hw;cases hw
  | some v=>rw [O] at hw;cases hw;exact al i x v bb O⟩ (FN aq).2
 rw [Y] at this;exact this
theorem Gh{α:Type}{pp:Rp α}{len:Nat}{ps:Array (Nat×Operand)}(vs:Lv_){z:Value}(xs:List α)
  (K:ops[i]? =some ⟨d,.buildSlice t len ps,ty,p,af,g⟩) (hw:AY L ops ⟨d,.buildSlice t len ps,ty,p,af,g⟩=some true) (O:BU b n ⟨d,.buildSlice t len ps,ty,p,af,g⟩=true)
  (U:P.underlying t=some (.slice e)) (Y:By P e=some pp.n) (Z:zeroOf P e=some z) (ac:decide (0<len*pp.n/\len*pp.n<=2 ^ 24)=true)
  (ag:ps.toList.mapM (λq=>(ev L q.2).map λv=>(q.1,v))=some ((vs.zipIdx 0).map λq=>(q.2,q.1)))
  (al:vs.length=len) (am:xs.length=len) (ap:Ly pp E xs vs) (aq:Au E H S)
  (h:∀r seg,OL e pp E (some ⟨r,0,none⟩) len seg xs->Au E H (S++ [seg])->JL J Q b n (AB L d (.slice (some ⟨r,0,none⟩) xs.length len)) ds (.inRegion ops rest::k) cs (Ak E H (S++ [seg]))):
  JL J Q b n L ds (.inRegion ops (i::rest)::k) cs (Ak E H S):=by
 exact JL.op K hw O λρ av=>V0 av vs xs U Y Z ac ag al am ap aq h
theorem OL.get{α:Type}{pp:Rp α}{a:Option Addr}{c:Nat}{seg:Seg}{xs:List α}{m:Nat}{x:α}(Z:OL e pp E a c seg xs)(hm:xs[m]? =some x):
  ∃bk f ws,a=some ⟨bk,0,none⟩/\seg= [(bk,.cells f e (0,0))]/\pp.r E ws x/\(∀j w,ws[j]? =some w->f[m*pp.n+j]? =some w)/\(m+1)*pp.n<=f.size/\
   ∀(x':α) (ws':Lv_),pp.r E ws' x'->OL e pp E a c [(bk,.cells (A9 f (m*pp.n) ws') e (0,0))] (xs.set m x'):=by
 obtain⟨wss,Z,am,ac⟩:=Z;have ap:m<xs.length:=(List.getElem?_eq_some_iff.1 hm).1;rcases Z with⟨ag,aq,_⟩ | ⟨bk,f,ag,aq,a2,av,aw⟩
 .omega
 have hw:wss[m]? =some wss[m]:=List.getElem?_eq_getElem (by omega);have ay:=IM am ac;have hle:(m+1)*pp.n<=xs.length*pp.n:=Nat.mul_le_mul_right _ ap;have a5:xs.length*pp.n<=c*pp.n:=Nat.mul_le_mul_right _ av;refine⟨bk,f,wss[m],ag,aq,ac m x _ hm hw,λj w K=>?_,by omega,λx' ws' az=>?_⟩
 .have:=K9 ay hw j w K;rw [aw,List.getElem?_take] at this;split at this
  .simpa using this
  .cases this
 .have a0:ws'.length=pp.n:=pp.len az;refine⟨wss.set m ws',.inr ⟨bk,_,ag,V,by rw [MS];exact a2,by simpa using av,?_⟩,by simpa using am,λi y us Y hu=>?_⟩
  .simp only [List.length_set];have key:∀(wss:List (Lv_)) (m:Nat) (hm:m<wss.length),(∀ws∈wss,ws.length=pp.n)->∀j,(wss.set m ws').flatten[j]? =if m*pp.n<=j/\j<(m+1)*pp.n then ws'[j - m*pp.n]? else wss.flatten[j]? :=by
    intro wss
    induction wss with
    | nil=>intro m hm;simp at hm
    | cons us wss al=>
     intro m hm a1 j;have hu:us.length=pp.n:=a1 us (by simp);cases m with
     | zero=>
      simp only [List.set_cons_zero,List.flatten_cons,Nat.zero_mul,Nat.zero_le,true_and,Nat.zero_add,Nat.one_mul,Nat.sub_zero];split
      .rename_i K;rw [List.getElem?_append_left (by omega)]
      .rename_i K;rw [List.getElem?_append_right (by omega),List.getElem?_append_right (by omega),a0,hu]
     | succ m=>
      simp only [List.set_cons_succ,List.flatten_cons];have O:(m+1)*pp.n=m*pp.n+pp.n:=Nat.succ_mul _ _;have e2:(m+1+1)*pp.n=(m+1)*pp.n+pp.n:=Nat.succ_mul _ _;rcases Nat.lt_or_ge j us.length with K | K
      .rw [List.getElem?_append_left K,List.getElem?_append_left K,if_neg (by omega)]
      .rw [List.getElem?_append_right K,List.getElem?_append_right K,al m (by simpa using hm) (λws a3=>a1 ws (List.mem_cons_of_mem _ a3))];by_cases U:m*pp.n<=j - us.length/\j - us.length<(m+1)*pp.n
       .rw [if_pos U,if_pos (by omega)];congr 1;omega
       .rw [if_neg U,if_neg (by omega)]
   have a4:∀(vs:Lv_) (c:Av_) (off:Nat),off+vs.length<=c.size->∀j,(A9 c off vs)[j]? =if off<=j/\j<off+vs.length then vs[j - off]? else c[j]? :=by
    intro vs
    induction vs with
    | nil=>intro c off _ j;simp [A9];omega
    | cons w vs al=>
     intro c off U j;simp only [A9,List.length_cons] at*;rw [al _ _ (by simp;omega)];by_cases O:j=off
     .subst O;rw [if_neg (by omega),if_pos (by omega),Nat.sub_self,List.getElem?_cons_zero,Array.getElem?_setIfInBounds_self_of_lt (by omega)]
     .by_cases e2:off+1<=j/\j<off+1+vs.length
      .rw [if_pos e2,if_pos (by omega)];have:j - off=(j - (off+1))+1:=by omega
       rw [this];simp
      .rw [if_neg e2,if_neg (by omega),Array.getElem?_setIfInBounds_ne (by omega)]
   apply List.ext_getElem?;intro j;have O:(m+1)*pp.n=m*pp.n+pp.n:=Nat.succ_mul _ _;have t1:(A9 f (m*pp.n) ws').toList[j]? =(A9 f (m*pp.n) ws')[j]? :=Array.getElem?_toList;have t2:f.toList[j]? =f[j]? :=Array.getElem?_toList;rw [key wss m (by omega) ay,List.getElem?_take,t1,a4 ws' f (m*pp.n) (by omega),aw,List.getElem?_take,t2,a0];by_cases U:m*pp.n<=j/\j<(m+1)*pp.n
   .rw [if_pos U,if_pos (by omega),if_pos (by omega)]
   .rw [if_neg U,if_neg (show ¬(m*pp.n<=j/\j<m*pp.n+pp.n) by omega)]
  .rw [List.getElem?_set] at Y hu;by_cases O:m=i
   .subst O;rw [if_pos rfl,if_pos ap] at Y;rw [if_pos rfl,if_pos (by omega)] at hu;cases Y;cases hu;exact az
   .rw [if_neg O] at hu Y;exact ac i y us Y hu
theorem J2{α:Type}{pp:Rp α}{a:Option Addr}{c:Nat}{seg:Seg}{xs:List α}{xv:α}{m:Int}(j:Nat)(O:OL e pp E a c seg xs)(hm:ix xs m=some xv)(U:S[j]? =some seg)
  (Y:ops[i]? =some ⟨d,.indexAddr t x y,ty,p,af,g⟩) (hw:AY L ops ⟨d,.indexAddr t x y,ty,p,af,g⟩=some true) (Z:BU b n ⟨d,.indexAddr t x y,ty,p,af,g⟩=true)
  (ac:ev L x=some (.slice a xs.length c)) (ag:ev L y=some (.int kd m)) (al:P.underlying t=some (.slice e)) (am:By P e=some pp.n)
  (h:∀bk o f ws,S[j]? =some [(bk,.cells f e (0,0))]->pp.r E ws xv->(∀j w,ws[j]? =some w->f[o+j]? =some w)->o+pp.n<=f.size->(∀(x':α) (ws':Lv_),pp.r E ws' x'->OL e pp E a c [(bk,.cells (A9 f o ws') e (0,0))] (xs.set m.toNat x'))->o=m.toNat*pp.n->a=some ⟨bk,0,none⟩->
   JL J Q b n (AB L d (.pointer (some ⟨bk,o,none⟩))) ds (.inRegion ops rest::k) cs (Ak E H S)):
  JL J Q b n L ds (.inRegion ops (i::rest)::k) cs (Ak E H S):=by
 obtain⟨m,rfl,hm⟩:=Gi hm;have a0:m<xs.length:=(List.getElem?_eq_some_iff.1 hm).1;obtain⟨bk,f,ws,rfl,rfl,ap,aq,av,aw⟩:=OL.get O hm;have ay:(m+1)*pp.n=m*pp.n+pp.n:=Nat.succ_mul _ _;have az:m*pp.n+pp.n<=f.size:=by rw [← ay];exact av
 refine Be (v:= .pointer (some ⟨bk,m*pp.n,none⟩)) Y hw Z (λρ K=>?_) (h bk (m*pp.n) f ws U ap aq az (by simpa using aw) (by simp) V);have:=MY (P:=P) (s:=Ak E H S) (d:=d) (ty:=ty) (p:=p) (af:=af) (g:=g) al am (K x _ ac) (K y _ ag) ⟨by omega,by omega⟩;rw [Ek rfl] at this;simpa using this
end
section
variable {b:Frame}{n:Nat}
variable {x:Operand}{v:Value}{i:Nat}
theorem JS.perm{todo:Li_}{S':List Seg}(K:S.flatten.Perm S'.flatten)(O:Au E H S)(h:Au E H S'->JL J Q b n L ds todo cs (Ak E H S')):JL J Q b n L ds todo cs (Ak E H S):=by
 have U:Au E H S':=Nd.perm O K;rw [show Ak E H S=Ak E H S' from Fs O K];exact h U
theorem GZ{todo:Li_}{A B:Seg}(j:Nat)(K:S[j]? =some (A++B))(O:Au E H S)(h:Au E H (S.set j A++ [B])->JL J Q b n L ds todo cs (Ak E H (S.set j A++ [B]))):JL J Q b n L ds todo cs (Ak E H S):=by
 refine JS.perm ?_ O h;have U:=(EG (seg':=A) K).1;have Y:=(EG (seg':=A) K).2;rw [Hc];refine U.trans ?_;have Z:=Y.symm.append_right B
 rwa [List.append_assoc] at Z
theorem JS.swap{todo:Li_}{A B:Seg}(j l:Nat)(O:S[j]? =some A)(U:S[l]? =some B)(Y:(j==l)=false)(Z:Au E H S)(h:Au E H ((S.set j B).set l A)->JL J Q b n L ds todo cs (Ak E H ((S.set j B).set l A))):JL J Q b n L ds todo cs (Ak E H S):=by
 have K:j≠l:=by simpa using Y
 refine JS.perm ?_ Z h;have a1:=(EG (seg':=B) O).1;have ac:(S.set j [])[l]? =some B:=by rw [List.getElem?_set_ne K];exact U
 have ag:=(EG (seg':=A) ac).1;have al:((S.set j B).set l A)[l]? =some A:=by
  have:l<(S.set j B).length:=by rw [List.length_set];exact(List.getElem?_eq_some_iff.1 U).1
  rw [List.getElem?_set,if_pos rfl,if_pos this]
 have c1:=(EG (seg':=A) al).1;rw [List.set_set] at c1;have am:((S.set j B).set l [])[j]? =some B:=by
  have:j<S.length:=(List.getElem?_eq_some_iff.1 O).1;rw [List.getElem?_set_ne (Ne.symm K)];simp [this]
 have c2:=(EG (seg':=B) am).1;have ap:(((S.set j B).set l []).set j [])=((S.set j []).set l []):=by
  rw [List.set_comm _ _ K,List.set_set,List.set_comm _ _ K.symm]
 rw [ap] at c2;exact a1.trans ((ag.append_right A).trans ((c2.symm.append_right A).trans c1.symm))
theorem Hy{bk off:Nat}{c:Av_}{f:Nat×Nat}{vs:Lv_}{seg:Seg}(j:Nat)(K:Au E H S)(O:S[j]? =some ((bk,.cells c e f)::seg))(U:(c.toList.drop off).take vs.length=vs):∀i v,vs[i]? =some v->(Ak E H S).cell? (Addr.add ⟨bk,off,none⟩ i)=some v:=
 Yj K O λi v hi=>by
  have Y:i<vs.length:=(List.getElem?_eq_some_iff.1 hi).1
  rw [← U,List.getElem?_take_of_lt Y,List.getElem?_drop,Array.getElem?_toList] at hi
  exact hi
theorem MV(vs:Lv_):∀(c:Av_) (off:Nat),off+vs.length<=c.size->∀j,(A9 c off vs)[j]? =if off<=j/\j<off+vs.length then vs[j - off]? else c[j]? :=by
 induction vs with
 | nil=>intro c off _ j;simp [A9];omega
 | cons w vs K=>
  intro c off U j;simp only [A9,List.length_cons] at*;rw [K _ _ (by simp;omega)];by_cases O:j=off
  .subst O;rw [if_neg (by omega),if_pos (by omega),Nat.sub_self,List.getElem?_cons_zero,Array.getElem?_setIfInBounds_self_of_lt (by omega)]
  .by_cases e2:off+1<=j/\j<off+1+vs.length
   .rw [if_pos e2,if_pos (by omega)];have:j - off=(j - (off+1))+1:=by omega
    rw [this];simp
   .rw [if_neg e2,if_neg (by omega),Array.getElem?_setIfInBounds_ne (by omega)]
end
theorem elim_inl{α β K:Type}{f:α->Option K}{g:β->Option K}{x:α}{r:K}(h:Sum.elim f g (.inl x)=some r):f x=some r:=h
theorem elim_inr{α β K:Type}{f:α->Option K}{g:β->Option K}{x:β}{r:K}(h:Sum.elim f g (.inr x)=some r):g x=some r:=h
def room{α:Type}(xs:List α)(x:α):Option (List α):=if xs.length+1<=2 ^ 40 then some (xs++ [x]) else none
theorem Yp{α:Type}{xs ys:List α}{x:α}(h:room xs x=some ys):xs.length+1<=2 ^ 40/\ys=xs++ [x]:=by
 unfold room at h;split at h
 .rename_i hb;exact⟨hb,(Option.some.inj h).symm⟩
 .cases h
def P2(a b:Int):Option Int:=if b=0 then none else some (a.tmod b)
def PH(a b:Nat):Option Nat:=if b=0 then none else some (a % b)
section
variable {x:Operand}{v:Value}{m:Int}{a b:Nat}
theorem dg{r:Int}(K:ρ x=iV m)(O:ρ y=iV m')(h:P2 m m'=some r):Yl P ⟨d,.binOp .rem t x y u,ty,p,af,g⟩ ρ s (iV r):=by
 unfold P2 at h;split at h
 .cases h
 .rename_i U;cases h;exact Yl.rem K O U
theorem aN{r:Nat}(K:ρ x= .int .u64 (a:Int))(O:ρ y= .int .u64 (b:Int))(h:PH a b=some r):Yl P ⟨d,.binOp .rem t x y u,ty,p,af,g⟩ ρ s (.int .u64 (r:Int)):=by
 unfold PH at h;split at h
 .cases h
 .rename_i U;cases h;exact dB K O U
theorem Yl.min2{ats:Array TypeId}(K:ρ x=iV m)(O:ρ y=iV m'):Yl P ⟨d,.call ⟨.builtin .min,#[x,y],ats⟩,ty,p,af,g⟩ ρ s (iV (min m m')):=by
 have e:(if m'<m then m' else m)=min m m':=by split <;> omega
 simp [Yl,execOp,lp,pure,bind,Sem.bind,K,O,resolve,invoke,builtin,Builtin.min_,Builtin.min2,e]
theorem Yl.max2{ats:Array TypeId}(K:ρ x=iV m)(O:ρ y=iV m'):Yl P ⟨d,.call ⟨.builtin .max,#[x,y],ats⟩,ty,p,af,g⟩ ρ s (iV (max m m')):=by
 have e:(if m<m' then m' else m)=max m m':=by split <;> omega
 simp [Yl,execOp,lp,pure,bind,Sem.bind,K,O,resolve,invoke,builtin,Builtin.max_,Builtin.max2,e]
end
def Mw(P:Program):List Field->List (Nat×Nat)->Prop
 | f::K,(o,n)::ps=>f.offset=o/\By P f.type=some n/\Mw P K ps
 | [],[]=>True
 | _,_=>False
theorem Mw.mapM{P:Program}:∀{K:List Field} {ps:List (Nat×Nat)},Mw P K ps->K.mapM (λf=>(By P f.type).map λn=>(f.offset,n))=some ps
 | [],[],_=>rfl
 | [],_::_,h=>h.elim
 | _::_,[],h=>h.elim
 | f::K,(o,n)::ps,h=>by
  obtain⟨O,U,Y⟩:=h
  simp only [List.mapM_cons,bind,U,Option.map_some,Option.bind_some,Mw.mapM Y,O];rfl
theorem QQ{L:Env}{ρ:Operand->Value}(h:Fa L ρ):∀{l:List (Nat×Operand)} {vs:List (Nat×Value)},l.mapM (λq=>(ev L q.2).map λv=>(q.1,v))=some vs->l.map (λ(j,x)=>(j,ρ x))=vs
 | [],vs,e=>by simp at e;subst e;rfl
 | q::l,vs,e=>by
  simp only [List.mapM_cons,bind] at e
  cases K:ev L q.2 with
  | none=>rw [K] at e;simp at e
  | some w=>
   rw [K] at e
   simp only [Option.map_some,Option.bind_some] at e
   obtain⟨Y,U,O⟩:=bind_some e
   simp at O;subst O
   simp [QQ h U,h _ _ K]
theorem C4{P:Program}{s:St}{ρ:Operand->Value}{L:Env}{d:Option Tmp}{t ty:TypeId}{p:String}{af:Ae_}{g:On_}{z:Value}{K:Array Field}{ps:Array (Nat×Operand)}{vs:List (Nat×Value)}{cells:Av_}(places:List (Nat×Nat))(h:Fa L ρ)(O:zeroOf P t=some z)(U:P.underlying t=some (.struct K))(Y:Mw P K.toList places)
  (Z:ps.toList.mapM (λq=>(ev L q.2).map λv=>(q.1,v))=some vs) (ac:Lt (places.toArray[·]?) z.cells vs=some cells):Yl P ⟨d,.build t ps,ty,p,af,g⟩ ρ s (.agg cells):=
 Yl.build (places:=places.toArray) O U (by simpa using Y.mapM) (QQ h Z) (by rw [fill_eq];exact ac)
theorem OL.again{α:Type}{e:TypeId}{pp:Rp α}{E:LH}{a:Option Addr}{bk c o:Nat}{f:Av_}{xs:List α}{m:Int}{x:α}(O:OL e pp E a c [(bk,.cells f e (0,0))] xs)(hm:ix xs m=some x)(U:o=m.toNat*pp.n):
  ∃ws,pp.r E ws x/\(∀j w,ws[j]? =some w->f[o+j]? =some w)/\o+pp.n<=f.size/\∀(x':α) (ws':Lv_),pp.r E ws' x'->OL e pp E a c [(bk,.cells (A9 f o ws') e (0,0))] (xs.set m.toNat x'):=by
 obtain⟨m,rfl,hm⟩:=Gi hm;obtain⟨ap,aq,ws,av,K,Y,Z,ac,ag⟩:=OL.get O hm;simp only [List.cons.injEq,Prod.mk.injEq,Obj.cells.injEq,and_true] at K;obtain⟨rfl,rfl⟩:=K;have al:(m+1)*pp.n=m*pp.n+pp.n:=Nat.succ_mul _ _;have am:o=m*pp.n:=by simpa using U
 subst am;exact⟨ws,Y,Z,by rw [← al];exact ac,by simpa using ag⟩
section
variable {b:Frame}{n:Nat}
variable {x:Operand}{v:Value}{i:Nat}
theorem JS.app{α:Type}{pp:Rp α}{t1 t2:TypeId}{K c:Nat}{a:Option Addr}{seg:Seg}{xs ys:List α}{xv:α}{Z:Nat}{d1:Tmp}{ats:Array TypeId}{O:TypeId}{U:String}{Y:Ae_}{g':On_}{z:Value}(j:Nat)(al:room xs xv=some ys)
  (am:ops[i]? =some ⟨some d1,.buildSlice t2 1 #[(0,y)],O,U,Y,g'⟩) (hw:AY L ops ⟨some d1,.buildSlice t2 1 #[(0,y)],O,U,Y,g'⟩=some true) (ap:BU b n ⟨some d1,.buildSlice t2 1 #[(0,y)],O,U,Y,g'⟩=true)
  (aq:ops[Z]? =some ⟨d,.call ⟨.builtin .append,#[x,.tmp d1],ats⟩,ty,p,af,g⟩) (av:∀w,AY (AB L (some d1) w) ops ⟨d,.call ⟨.builtin .append,#[x,.tmp d1],ats⟩,ty,p,af,g⟩=some true) (aw:BU b n ⟨d,.call ⟨.builtin .append,#[x,.tmp d1],ats⟩,ty,p,af,g⟩=true)
  (ay:∀w,ev (AB L (some d1) w) x=some (.slice a xs.length c)) (az:ev L y=some v) (a0:ats[0]? =some t) (a1:ats[1]? =some t1) (a2:P.underlying t=some (.slice e)) (a3:P.underlying t1=some (.slice e)) (a4:P.underlying t2=some (.slice e)) (a5:By P e=some pp.n) (hb:F4 P e=some K) (a6:zeroOf P e=some z) (a7:z.cells.size=pp.n)
  (a8:0<K) (a9:K<=64) (bb:0<pp.n) (be:pp.n<=64) (bi:OL e pp E a c seg xs) (bn:pp.r E v.cells.toList xv) (bo:Au E H S) (bv:S[j]? =some seg)
  (h:∀w ac ag seg',OL e pp E ac ag seg' ys->Au E H (S.set j seg')->JL J Q b n (AB (AB L (some d1) w) d (.slice ac ys.length ag)) ds (.inRegion ops rest::k) cs (Ak E H (S.set j seg'))):
  JL J Q b n L ds (.inRegion ops (i::Z::rest)::k) cs (Ak E H S):=by
 obtain⟨bw,rfl⟩:=Yp al;exact XT j am hw ap aq av aw ay az a0 a1 a2 a3 a4 a5 hb a6 a7 a8 a9 bb be bw bi bn bo bv h
theorem BQ{todo:Li_}{S':List Seg}(K:S=S')(O:Au E H S)(h:Au E H S'->JL J Q b n L ds todo cs (Ak E H S')):JL J Q b n L ds todo cs (Ak E H S):=by
 subst K;exact h O
theorem TW{todo:Li_}(K:Au E H S)(h:Au E H (S++ [[]])->JL J Q b n L ds todo cs (Ak E H (S++ [[]]))):JL J Q b n L ds todo cs (Ak E H S):=
 IP (S':=S++ [[]]) (by rw [Hc,List.append_nil]) K h
end
theorem EW.LG{P:Program}{J:Judge P}{f:FuncId}{args:Av_}{s:St}{R:Value->St->Prop}(h:EW J f args s R)(U:∀v s',R v s'->s'.q=false):EW J f args s (λv s'=>R v s'/\∃w,Fits s' w):=λQ c cs Y=>
 h Q c cs λv s' K=>by
  by_cases O:∃w,Fits s' w
  .exact Y v s' ⟨K,O⟩
  .exact J.step ⟨V,λw f=>absurd ⟨w,f⟩ O,λe=>by have:=U v s' K;subst e;cases this⟩
def AD(l:List Nat):Nat->Bool:=λx=>l.contains x
section
variable {b:Frame}{n:Nat}{m fuel:Nat}
variable {x:Operand}{v:Value}{i:Nat}
def GG(ops:Ao_)(listed:Array Bool)(m i:Nat):Bool:=match ops[i]? with
 | some oi=>decide (i<m)&&Region.noSelect ops&& !Ey oi.op&&Jt ops listed i oi&&Ik ops listed&&listed.size==ops.size&&(Region.ready .any ops listed).contains i
 | none=>false
theorem ZQ(m:Nat){id:Nat}(hm:P.follows .mixedOrders=true)(K:(b.kind != .early)=true)
  (O:Es ops m=true) (h:Es ops m=true->AZ J Q b n ds ops k cs m DR ops.size (Array.replicate ops.size false) L (Ak E H S)):JL J Q b n L ds (.code (.region id ops true)::k) cs (Ak E H S):=
 QY m DR V hm K (h O)
theorem TO{oi:Oper}{i:Nat}(hi:ops[i]? =some oi)(K:GG ops listed m i=true):decide (i<m)=true/\Region.noSelect ops=true/\(!Ey oi.op)=true/\Jt ops listed i oi=true/\Ik ops listed=true/\(listed.size==ops.size)=true/\(Region.ready .any ops listed).contains i=true:=by
 simp only [GG,hi,Bool.and_eq_true] at K;obtain⟨⟨⟨⟨⟨⟨O,U⟩,Y⟩,Z⟩,ac⟩,ag⟩,al⟩:=K;exact⟨O,U,Y,Z,ac,ag,al⟩
theorem JG.val{oi:Oper}(i:Nat)(hi:ops[i]? =some oi)(K:Es ops m=true)(O:GG ops listed m i=true)(U:s.q=false)
  (hw:AY L ops oi=some true) (Y:Bu n oi.dst=true) (Z:∀ρ,Fa L ρ->∀s':St,(∀x o,(Bz D s).E x=some o->s'.E x=some o)->Yl P oi ρ s' v)
  (h:AZ J Q b n ds ops k cs m D fuel (Bm listed i) (AB L oi.dst v) s):AZ J Q b n ds ops k cs m D (fuel+1) listed L s:=
 let ⟨ac,ag,al,am,ap,aq,av⟩:=TO hi O
 ZA hi ac K ag al am ap aq av U hw Y (λρ aw s' _ ay=>Z ρ aw s' ay) h
theorem jq{oi:Oper}(i:Nat)(hi:ops[i]? =some oi)(K:Es ops m=true)(O:GG ops listed m i=true)(U:s.q=false)
  (hw:AY L ops oi=some false) (Y:Bu n oi.dst=true)
  (h:AZ J Q b n ds ops k cs m D fuel (Bm listed i) (AB L oi.dst undef) s):AZ J Q b n ds ops k cs m D (fuel+1) listed L s:=
 let ⟨Z,ac,ag,al,am,ap,aq⟩:=TO hi O
 Yq hi Z K ac ag al am ap aq U hw Y h
theorem et{α:Type}{pp:Rp α}{a:Option Addr}{c:Nat}{xs:List α}{xv:α}{K:Int}(i:Nat)(Y:Ao pp E a c xs)(O:ix xs K=some xv)
  (Z:ops[i]? =some ⟨d,.indexAddr t x y,ty,p,af,g⟩) (ac:Es ops m=true) (ag:GG ops listed m i=true) (al:s.q=false)
  (hw:AY L ops ⟨d,.indexAddr t x y,ty,p,af,g⟩=some true) (am:Bu n d=true)
  (ap:ev L x=some (.slice a xs.length c)) (aq:ev L y=some (.int kd K)) (av:P.underlying t=some (.slice e)) (aw:By P e=some pp.n)
  (h:∀bk o ws,pp.r E ws xv->At E bk o ws->AZ J Q b n ds ops k cs m D fuel (Bm listed i) (AB L d (.pointer (some ⟨bk,o,none⟩))) s):
  AZ J Q b n ds ops k cs m D (fuel+1) listed L s:=by
 obtain⟨K,rfl,O⟩:=Gi O;have ay:K<xs.length:=(List.getElem?_eq_some_iff.1 O).1;obtain⟨a2,⟨rfl,_⟩ | ⟨bk,off,rfl,az⟩⟩:=Y
 .simp at ay
 obtain⟨ws,a0,a1⟩:=az K xv O;refine JG.val (v:= .pointer (some ⟨bk,off+K*pp.n,none⟩)) i Z ac ag al hw am (λρ U s' _=>?_) (h bk _ ws a0 a1);have:=MY (P:=P) (s:=s') (d:=d) (ty:=ty) (p:=p) (af:=af) (g:=g) av aw (U x _ ap) (U y _ aq) ⟨by omega,by omega⟩;rw [Ek rfl] at this;simpa using this
theorem JG.call{f:FuncId}{args:Array Operand}{ats:Array TypeId}{vs:Lv_}{R:Value->LH->Seg->Prop}(Y:AT J f vs E [] R)(Z:Region.ready .any ops listed= [i])
  (ac:ops[i]? =some ⟨d,.call ⟨.value (.func f),args,ats⟩,ty,p,af,g⟩) (ag:Bu n d=true) (hw:AY L ops ⟨d,.call ⟨.value (.func f),args,ats⟩,ty,p,af,g⟩=some true) (hb:Ec P f=true) (al:evs L args.toList=some vs) (am:Au E H S)
  (ap:∀v E' seg',Le E E'->R v E' seg'->Au E' H (S++ [seg'])->AZ J Q b n ds ops k cs m DR fuel (Bm listed i) (AB L d v) (Ak E' H (S++ [seg']))):
  AZ J Q b n ds ops k cs m DR (fuel+1) listed L (Ak E H S):=by
 have aq:=EW.LG (Y (Bq S.flatten H) trivial) (by rintro v s' ⟨E',B',_,_,_,rfl⟩;rfl);refine AZ.call V Z ac ag hw hb al aq ?_;rintro v a2 ⟨⟨E',B',hle,av,aw,rfl⟩,w,ay⟩;have e2:mk E' (Bq S.flatten H) B'=mk E' H (B'++S.flatten):=by unfold mk;rw [F0]
 have az:Nd E' H S.flatten:=Nd.grow am λx K=>by
  have a0:=ay.d x K;have a1:Bq B' (Bq S.flatten H) x=none:=a0;exact(H7 a1).1
 have O:Nd E' H (B'++S.flatten):=Nd.glue aw az;have U:(B'++S.flatten).Perm (S++ [B']).flatten:=by rw [Hc];exact List.perm_append_comm
 rw [e2,Fs O U];exact⟨V,λx o K=>hle x o K,ap v E' B' hle av (Nd.perm O U)⟩
end
theorem Pw{E H:LH}{S:List Seg}{j bk:Nat}{o:Obj}{seg:Seg}(K:Au E H S)(O:S[j]? =some ((bk,o)::seg)):E bk=none:=by
 have hm:(bk,o)∈S.flatten:=List.mem_flatten.2 ⟨_,List.mem_of_getElem? O,by simp⟩;exact((Nd.iff.1 K).2 _ hm).1
def Ip{α:Type}(n:Int)(z:α):Option (List α):=if 0<=n/\n<=2 ^ 20 then some (List.replicate n.toNat z) else none
def EK{α:Type}(xs ys:List α):Option (List α):=if xs.length+ys.length<=2 ^ 40 then some (xs++ys) else none
def HR{α:Type}(xs:List α)(lo hi:Int):Option (List α):=if 0<=lo/\lo<=hi/\hi<=xs.length then some ((xs.take hi.toNat).drop lo.toNat) else none
section
variable {x:Operand}{v:Value}{m:Int}{a b:Nat}
end
variable {L':Env}
section
variable {b:Frame}{n:Nat}
variable {x:Operand}{v:Value}{i:Nat}
theorem Zh{ρ:Operand->Value}:execOp ρ ⟨d,.makeSlice t x y,ty,p,af,g⟩=(do pure (Next.value (← Instr.makeSlice t (ρ x) (ρ y)))):=by
 simp only [execOp]
theorem Qw{α:Type}(w:List α):∀m:Nat,((List.replicate m w).flatten).length=m*w.length
 | 0=>by simp
 | m+1=>by rw [List.replicate_succ,List.flatten_cons,List.length_append,Qw w m,Nat.succ_mul,Nat.add_comm]
theorem ZS(z:Av_)(O:0<z.size):∀m:Nat,((Array.range (m*z.size)).map (z[· % z.size]!)).toList=(List.replicate m z.toList).flatten:=by
 intro m;apply List.ext_getElem?;intro j;simp only [Array.toList_map,Array.toList_range,List.getElem?_map];by_cases K:j<m*z.size
 .rw [List.getElem?_range K];have Y:j / z.size<m:=(Nat.div_lt_iff_lt_mul O).2 K;have U:j % z.size<z.size:=Nat.mod_lt _ O;have hw:(List.replicate m z.toList)[j / z.size]? =some z.toList:=by simp [Y]
  have:=K9 (n:=z.size) (wss:=List.replicate m z.toList) (λws Z=>by rw [List.eq_of_mem_replicate Z];simp) hw (j % z.size) z[j % z.size] (by simp [U]);rw [show j / z.size*z.size+j % z.size=j from by rw [Nat.mul_comm];exact Nat.div_add_mod _ _] at this;rw [this];simp [U]
 .have hlen:((List.replicate m z.toList).flatten).length=m*z.size:=by rw [Qw];simp
  rw [List.getElem?_eq_none (by simpa using K),List.getElem?_eq_none (by rw [hlen];omega)];rfl
theorem JS.make{α:Type}{pp:Rp α}{z:Value}{Z:α}{m:Int}{xs:List α}(U:Ip m Z=some xs)
  (av:ops[i]? =some ⟨d,.makeSlice t x y,ty,p,af,g⟩) (hw:AY L ops ⟨d,.makeSlice t x y,ty,p,af,g⟩=some true) (aw:BU b n ⟨d,.makeSlice t x y,ty,p,af,g⟩=true)
  (ay:ev L x=some (iV m)) (Y:ev L y=some (iV m)) (az:P.underlying t=some (.slice e)) (a0:By P e=some pp.n) {O:Nat} (hb:F4 P e=some O) (be:O<=64) (a1:zeroOf P e=some z) (bi:0<pp.n) (ac:pp.r E z.cells.toList Z) (a2:Au E H S)
  (h:∀r seg,OL e pp E (some ⟨r,0,none⟩) xs.length seg xs->Au E H (S++ [seg])->JL J Q b n (AB L d (.slice (some ⟨r,0,none⟩) xs.length xs.length)) ds (.inRegion ops rest::k) cs (Ak E H (S++ [seg]))):
  JL J Q b n L ds (.inRegion ops (i::rest)::k) cs (Ak E H S):=by
 unfold Ip at U;split at U
 rotate_left
 .cases U
 rename_i hm;cases U;refine JL.op av hw aw λρ ag=>?_;rw [Zh,ag x _ ay,ag y _ Y];refine Ay _ _ ?_;unfold Instr.makeSlice;refine Ay _ _ (Cx az ?_);simp only [asInt,IG];obtain⟨inf,a3,a4⟩:=QM hb;refine Ay (x:=typeInfo e) _ (K7 a3 ?_);simp only [a4,Ks (show -9223372036854775808<=m/\m<=9223372036854775807 by omega)];have bn:(O:Int)*m<=64*2 ^ 20:=by
  have al:(O:Int)*m<=64*m:=Int.mul_le_mul_of_nonneg_right (by omega) hm.1;omega
 have a5:((decide (m<0) || decide ((O:Int)*m>2 ^ 48)) || decide (m<0) || decide (m>m))=false:=by
  simp only [Bool.or_eq_false_iff,decide_eq_false_iff_not];omega
 rw [a5];simp only [Bool.false_eq_true,if_false];refine Ay (x:=askRoom _) _ ?_;have a6:∀{Q:Unit->St->Prop} {X:Halt->St->Prop} (w:Nat),Q () (Ak E H S)->lp P (askRoom w) (Ak E H S) Q X:=by
  intro Q X w am;unfold askRoom;split
  .exact⟨.inl ⟨V,V⟩,am⟩
  .exact am
 refine a6 _ (Ay (x:=Go.sizeOf e) _ (Fh a0 ?_));have ap:z.cells.size=pp.n:=by simpa using pp.len ac
 have fin:∀K:Av_,((Array.range (m.toNat*pp.n)).map (K[· % K.size]!)).toList=(List.replicate m.toNat z.cells.toList).flatten->lp P (do let a ← newRow e ((Array.range (m.toNat*pp.n)).map (K[· % K.size]!));pure (Value.slice (some a) m.toNat m.toNat)) (Ak E H S) (λa s'=>lp P (pure (Next.value a)) s' (λa7 s'=>match a7 with
   | .value v=>JL J Q b n (AB L d v) ds (.inRegion ops rest::k) cs s'
   | .skip=>JL J Q b n (AB L d undef) ds (.inRegion ops rest::k) cs s'
   | _=>False) (λ_ _=>False)) (λ_ _=>False):=by
  intro K a8;refine Ay _ _ (JX a2 λr aq=>?_);rw [(FN aq).1];have bo:((Array.range (m.toNat*pp.n)).map (K[· % K.size]!)).size=m.toNat*pp.n:=by simp
  have:=h r _ ⟨List.replicate m.toNat z.cells.toList,.inr ⟨r,_,rfl,rfl,by simp,by simp,by
   rw [a8,List.take_of_length_le (by rw [Qw];simp [ap])]⟩,by simp,λi y us Y hu=>by
    have:=List.mem_of_getElem? Y;have a9:=List.eq_of_mem_replicate this
    have:=List.mem_of_getElem? hu;have e2:=List.eq_of_mem_replicate this
    subst a9 e2;exact ac⟩ (FN aq).2
  simp only [List.length_replicate] at this;exact this
 split
 .rename_i bb;have al:m.toNat=0:=by rcases Nat.mul_eq_zero.1 bb with h | h <;> omega
  exact fin #[] (by simp [al])
 .refine Ay (x:=zeroValue e) _ (H8 a1 ?_);refine fin z.cells ?_;rw [← ap];exact ZS z.cells (by omega) _
theorem Vh{α:Type}{pp:Rp α}(O:ops[i]? =some ⟨d,.buildSlice t 0 #[],ty,p,af,g⟩)(hw:AY L ops ⟨d,.buildSlice t 0 #[],ty,p,af,g⟩=some true)(U:BU b n ⟨d,.buildSlice t 0 #[],ty,p,af,g⟩=true)
  (Y:P.underlying t=some (.slice e)) (Z:By P e=some pp.n) (ac:Au E H S)
  (h:∀r seg,OL e pp E (some ⟨r,0,none⟩) 0 seg []->Au E H (S++ [seg])->JL J Q b n (AB L d (.slice (some ⟨r,0,none⟩) 0 0)) ds (.inRegion ops rest::k) cs (Ak E H (S++ [seg]))):
  JL J Q b n L ds (.inRegion ops (i::rest)::k) cs (Ak E H S):=by
 refine JL.op O hw U λρ al=>?_;rw [TT];refine Ay _ _ ?_;unfold Instr.buildSlice;refine Ay _ _ (Cx Y ?_);refine Ay _ _ (Fh Z ?_);rw [if_neg (by omega),if_pos (by omega)];refine Ay (x:=pure #[]) _ ?_;simp only [lp,pure,List.map_toArray,List.map_nil,Instr.fill];refine Ay _ _ (JX ac λr K=>?_);rw [(FN K).1];exact h r _ ⟨[],.inr ⟨r,_,V,V,by simp,Nat.le_refl _,by simp⟩,V,λi x ws ag=>by simp at ag⟩ (FN K).2
theorem Ao.rows{α:Type}{pp:Rp α}{a:Option Addr}{c:Nat}{xs:List α}(U:Ao pp E a c xs):∃wss:List (Lv_),wss.length=xs.length/\(∀(i:Nat) x ws,xs[i]? =some x->wss[i]? =some ws->pp.r E ws x)/\
  ((xs= []/\∀ad:Addr,a=some ad->ad.spot=none∨c=0)∨∃bk off,a=some ⟨bk,off,none⟩/\∀(i:Nat) ws,wss[i]? =some ws->At E bk (off+i*pp.n) ws):=by
 obtain⟨ag,U⟩:=U;rcases U with⟨rfl,Z⟩ | ⟨bk,off,rfl,ac⟩
 .exact⟨[],V,λi x ws O=>by simp at O,.inl ⟨V,Z⟩⟩
 .have Y:∀i:Fin xs.length,∃ws,pp.r E ws xs[i]/\At E bk (off+i*pp.n) ws:=λi=>ac i xs[i] (List.getElem?_eq_getElem i.2);refine⟨List.ofFn λi=>Classical.choose (Y i),by simp,λi x ws O hw=>?_,.inr ⟨bk,off,V,λi ws hw=>?_⟩⟩
  .have K:i<xs.length:=(List.getElem?_eq_some_iff.1 O).1;simp [K] at hw;subst hw;rw [List.getElem?_eq_getElem K] at O;cases O;exact(Classical.choose_spec (Y ⟨i,K⟩)).1
  .have K:i<xs.length:=by have:=(List.getElem?_eq_some_iff.1 hw).1;simpa using this
   simp [K] at hw;subst hw;exact(Classical.choose_spec (Y ⟨i,K⟩)).2
theorem MQ{n:Nat}:∀{wss:List (Lv_)},(∀ws∈wss,ws.length=n)->wss.flatten.length=wss.length*n
 | [],_=>by simp
 | ws::wss,h=>by rw [List.flatten_cons,List.length_append,h ws (by simp),MQ λw hw=>h w (List.mem_cons_of_mem _ hw),List.length_cons,Nat.succ_mul,Nat.add_comm]
theorem Qv{n:Nat}:∀{wss:List (Lv_)},(∀ws∈wss,ws.length=n)->∀{j:Nat} {w:Value},wss.flatten[j]? =some w->∃(i m:Nat) (ws:Lv_),wss[i]? =some ws/\ws[m]? =some w/\j=i*n+m
 | [],_,_,_,h=>by simp at h
 | us::wss,O,j,w,h=>by
  have hu:=O us (by simp)
  rw [List.flatten_cons] at h
  rcases Nat.lt_or_ge j us.length with K | K
  .rw [List.getElem?_append_left K] at h
   exact⟨0,j,us,V,h,by simp⟩
  .rw [List.getElem?_append_right K] at h;obtain⟨i,m,ws,U,Y,Z⟩:=Qv (λws hw=>O ws (List.mem_cons_of_mem _ hw)) h;exact⟨i+1,m,ws,by simpa using U,Y,by rw [Nat.succ_mul];omega⟩
theorem Oi{α:Type}{pp:Rp α}{wss O:List (Lv_)}{xs ys:List α}(U:wss.length=xs.length)(h:∀(i:Nat) x ws,xs[i]? =some x->wss[i]? =some ws->pp.r E ws x)(Y:∀(i:Nat) x ws,ys[i]? =some x->O[i]? =some ws->pp.r E ws x):
  ∀(i:Nat) y us,(xs++ys)[i]? =some y->(wss++O)[i]? =some us->pp.r E us y:=by
 intro i y us K hu;rcases Nat.lt_or_ge i xs.length with hi | hi
 .rw [List.getElem?_append_left hi] at K;rw [List.getElem?_append_left (by omega)] at hu;exact h i y us K hu
 .rw [List.getElem?_append_right hi] at K;rw [List.getElem?_append_right (by omega),U] at hu;exact Y _ y us K hu
theorem X0{e t t1:TypeId}{Z az l c m:Nat}{a:Option Addr}{blk:List (Nat×Obj)}{xs ys:Lv_}{i:Nat}{rest:List Nat}{d:Option Tmp}{x y:Operand}{ats:Array TypeId}{ty:TypeId}{p:String}{af:Ae_}{g:On_}{z:Value}{ax:Option Addr}{cx:Nat}{B1:List (Nat×Obj)}
  (a8:ops[i]? =some ⟨d,.call ⟨.builtin .append,#[x,y],ats⟩,ty,p,af,g⟩) (hw:AY L ops ⟨d,.call ⟨.builtin .append,#[x,y],ats⟩,ty,p,af,g⟩=some true) (a9:BU b n ⟨d,.call ⟨.builtin .append,#[x,y],ats⟩,ty,p,af,g⟩=true)
  (bb:ev L x=some (.slice a l c)) (be:ev L y=some (.slice ax m cx)) (bi:ats[0]? =some t) (bn:ats[1]? =some t1) (bo:P.underlying t=some (.slice e)) (bv:P.underlying t1=some (.slice e)) (bw:By P e=some Z) (hb:F4 P e=some az) (bx:zeroOf P e=some z) (bz:z.cells.size=Z)
  (b0:0<az) (b1:az<=64) (b2:l+m<=2 ^ 40) (b3:∀w∈ys,C5 w=true) (av:GS e Z a l c blk xs) (a0:Nd E H (B0++blk++B1)) (a1:Im (mk E H (B0++blk++B1)) (.slice ax m cx) Z ys)
  (h:∀a5 aw a2,GS e Z a5 (l+m) aw a2 (xs++ys)->Nd E H (B0++a2)->JL J Q b n (AB L d (.slice a5 (l+m) aw)) ds (.inRegion ops rest::k) cs (mk E H (B0++a2))):
  JL J Q b n L ds (.inRegion ops (i::rest)::k) cs (mk E H (B0++blk++B1)):=by
 refine JL.op a8 hw a9 λρ a6=>?_;rw [MP,a6 x _ bb,a6 y _ be];have b4:PM (B0++blk++B1) B0.length e Z a l c xs:=by
  rcases av with⟨K,Y,al,am,ac⟩ | ⟨bk,f,K,Y,al,am,ac⟩
  .exact .inl ⟨K,Y,al,ac⟩
  .refine .inr ⟨bk,f,K,?_,al,am,ac⟩;subst Y;simp
 have hlen:=av.length;refine Ay _ _ (QN (pl:=B0.length) bi bn bv bo bw hb bx bz a0 b4 a1 b3 b0 b2 b1 ?_ ?_ ?_)
 ·
  intro bk f O ay ci co b5 a3 a4 ag;rcases av with⟨K,_⟩ | ⟨U,f0,K,Y,al,am,ac⟩
  .rw [K] at ay;cases ay
  .subst Y;have b6:U=bk:=by rw [K] at ay;simpa using ay
   subst b6;have ca:(B0++ [(U,Obj.cells f0 e (0,0))]++B1).set B0.length (U,.cells O e (0,0))=B0++ [(U,.cells O e (0,0))]++B1:=by
    rw [List.append_assoc,List.append_assoc];exact Jl _ _ _ _
   rw [ca] at ag ⊢;have ap:Nd E H (B0++ [(U,.cells O e (0,0))]):=Lb.Nd.left ag;refine JL.drop (B0++ [(U,.cells O e (0,0))]) (λp aq=>?_) ag (h a c _ (.inr ⟨U,O,K,V,a3,b5,a4.symm⟩) ap);exact List.mem_iff_getElem?.1 (List.mem_append_left _ aq)
 .intro a7 hm;rcases av with⟨K,Y,al,am,ac⟩ | ⟨U,f0,K,_⟩
  .subst hm;have cc:ys= []:=by
    cases ax with
    | none=>exact a1.2
    | some ad=>have:=a1.2.1;simp at this;exact this
   subst Y am ac cc;have ap:Nd E H (B0++ []):=Lb.Nd.left a0;exact JL.drop (B0++ []) (λp aq=>List.mem_iff_getElem?.1 (List.mem_append_left _ aq)) a0 (h none 0 [] (by simpa using GS.nil) ap)
  .rw [K] at a7;cases a7
 ·
  intro r O aw ce a3 a4 ag;have ap:Nd E H (B0++ [(r,.cells O e (0,0))]):=Lb.Nd.pick ag;refine JL.drop (B0++ [(r,.cells O e (0,0))]) (λp aq=>?_) ag (h (some ⟨r,0,none⟩) aw _ (.inr ⟨r,O,V,V,a3,ce,a4.symm⟩) ap);refine List.mem_iff_getElem?.1 ?_;rcases List.mem_append.1 aq with q | q
  .simp [q]
  .exact List.mem_append_right _ q
theorem KA{α:Type}{pp:Rp α}{t1:TypeId}{al c cx:Nat}{a ax:Option Addr}{seg:Seg}{xs ys am:List α}{ats:Array TypeId}{z:Value}(j:Nat)(Y:EK xs ys=some am)
  (a2:ops[i]? =some ⟨d,.call ⟨.builtin .append,#[x,y],ats⟩,ty,p,af,g⟩) (hw:AY L ops ⟨d,.call ⟨.builtin .append,#[x,y],ats⟩,ty,p,af,g⟩=some true) (a3:BU b n ⟨d,.call ⟨.builtin .append,#[x,y],ats⟩,ty,p,af,g⟩=true)
  (a4:ev L x=some (.slice a xs.length c)) (a5:ev L y=some (.slice ax ys.length cx)) (a6:ats[0]? =some t) (a7:ats[1]? =some t1) (a8:P.underlying t=some (.slice e)) (a9:P.underlying t1=some (.slice e)) (bb:By P e=some pp.n) (hb:F4 P e=some al) (be:zeroOf P e=some z) (bi:z.cells.size=pp.n)
  (bn:0<al) (bo:al<=64) (ap:OL e pp E a c seg xs) (av:Ao pp E ax cx ys) (bv:Au E H S) (aw:S[j]? =some seg)
  (h:∀Z ac seg',OL e pp E Z ac seg' am->Au E H (S.set j seg')->JL J Q b n (AB L d (.slice Z am.length ac)) ds (.inRegion ops rest::k) cs (Ak E H (S.set j seg'))):
  JL J Q b n L ds (.inRegion ops (i::rest)::k) cs (Ak E H S):=by
 unfold EK at Y;split at Y
 rotate_left
 .cases Y
 rename_i bw;cases Y;obtain⟨wss,ap,ay,bx⟩:=ap;obtain⟨bz,az⟩:=Hg bv aw;obtain⟨ag,O,aq,U⟩:=av.rows;have a0:=IM O aq;rw [bz];have b0:∀w∈ag.flatten,C5 w=true:=λw hw=>by
  obtain⟨us,b1,hw⟩:=List.mem_flatten.1 hw;obtain⟨q,K⟩:=List.mem_iff_getElem?.1 b1;have b2:q<ys.length:=by rw [← O];exact(List.getElem?_eq_some_iff.1 K).1
  exact pp.one (aq q _ us (List.getElem?_eq_getElem b2) K) w hw
 have hlen:(xs++ys).length=xs.length+ys.length:=by simp
 have a1:Im (mk E H ((S.set j []).flatten++seg)) (.slice ax ys.length cx) pp.n ag.flatten:=by
  rcases U with⟨U,cp⟩ | ⟨bk,off,rfl,U⟩
  .subst U;have:ag= []:=List.eq_nil_of_length_eq_zero O;subst this;cases ax with
   | none=>exact⟨rfl,rfl⟩
   | some ad=>exact⟨.inr rfl,by simp,Nat.zero_le _,λq w K=>by simp at K⟩
  .refine⟨.inl V,by rw [MQ a0,O],av.1,λq w K=>?_⟩;obtain⟨b3,m,ws,b4,e2,b5⟩:=Qv a0 K;have:=(U b3 ws b4).cell (H:=H) (B:=(S.set j []).flatten++seg) e2;subst b5;rw [← Nat.add_assoc];exact this
 have b6:(S.set j []).flatten++seg=(S.set j []).flatten++seg++ []:=(List.append_nil _).symm;rw [b6] at az a1 ⊢;refine X0 a2 hw a3 a4 a5 a6 a7 a8 a9 bb hb be bi bn bo bw b0 ap az a1 λZ ac ca cc ce=>?_;obtain⟨ci,co⟩:=Jp aw ce;rw [ci];have:=h Z ac ca ⟨wss++ag,by rw [hlen,List.flatten_append];exact cc,by simp [ay,O],Oi ay bx aq⟩ co;rw [hlen] at this;exact this
end
section
variable {b:Frame}{n:Nat}{m fuel:Nat}
variable {x:Operand}{v:Value}{i:Nat}
theorem DD(h:Sub L' L)(k':AZ J Q b n ds ops k cs m D fuel listed L' s):AZ J Q b n ds ops k cs m D fuel listed L s:=λT K=>k' T (K.sub h)
theorem F1{K:Nat}{O:Array Bool}(fuel:Nat)(listed:Array Bool)(I:Env->St->Prop)(U:∀L s,I L s->AZ J Q b n ds ops k cs m D fuel listed L s)(h:(∀L s,I L s->AZ J Q b n ds ops k cs m D fuel listed L s)->AZ J Q b n ds ops k cs m D K O L s):AZ J Q b n ds ops k cs m D K O L s:=h U
end
theorem iE{α:Type}{kk:Nat}{pp:Rp α}{E:LH}{bk o:Nat}{ws:Lv_}{xs:List α}{m:Int}{x:α}(O:(rA kk pp).r E ws xs)(h:At E bk o ws)(hm:ix xs m=some x):∃us,pp.r E us x/\At E bk (o+m.toNat*pp.n) us/\0<=m/\m<kk:=by
 obtain⟨U,wss,rfl,Y,K⟩:=O;obtain⟨m,rfl,hm⟩:=Gi hm;have ag:m<xs.length:=(List.getElem?_eq_some_iff.1 hm).1;have hw:wss[m]? =some wss[m]:=List.getElem?_eq_getElem (by omega);refine⟨wss[m],K m x _ hm hw,?_,by omega,by omega⟩;obtain⟨f,e,fr,Z,g2⟩:=h;refine⟨f,e,fr,Z,λj w ac=>?_⟩;rw [Nat.add_assoc];exact g2 _ _ (K9 (IM (Y.trans U.symm) K) hw j w ac)
variable {v':Value}
section
variable {x:Operand}{v:Value}
end
section
variable {b:Frame}{n:Nat}
variable {x:Operand}{i:Nat}
end
section
variable {x:Operand}{v:Value}
theorem YI{o:BinOp}{c K:Av_}(O:o= .eql∨o= .neq)(U:P.eqGuardType P.depth t=false){Q:Unit->St->Prop}{X:Halt->St->Prop}(k:Q () s):lp P (eqGuard o t x y (.agg c) (.agg K)) s Q X:=by
 rcases O with rfl | rfl <;> (simp [eqGuard,lp,bind,Sem.bind,program,pure,U];exact k)
end
section
variable (J:Judge P)(Q:Gs_)(b:Frame)(n:Nat)(ds:Ld_)(ops:Ao_)(k:Li_)(cs:Lf_)(m:Nat)(D:Nat->Bool)
def Take(fuel:Nat)(listed:Array Bool)(L:Env)(s:St)(i:Nat):Prop:=
 ∃o,ops[i]? =some o/\(!Ey o.op)=true/\Bu n o.dst=true/\AY L ops o=some true/\∀ρ,Fa L ρ->lp P (execOp ρ o) (Bz D s) (λO s'=>match O with
  | .value v=>AZ J Q b n ds ops k cs m D fuel (Bm listed i) (AB L o.dst v) (Cy D s s')
  | .skip=>AZ J Q b n ds ops k cs m D fuel (Bm listed i) (AB L o.dst undef) (Cy D s s')
  | .enter f args=>∃R,EW J f args (Cy D s s') R/\∀v K,R v K->K.q=false/\(∀x o,(Bz D s).E x=some o->(Bz D K).E x=some o)/\AZ J Q b n ds ops k cs m D fuel (Bm listed i) (AB L o.dst v) K
  | _=>False) (λ_ _=>False)
end
section
variable {b:Frame}{n:Nat}{m fuel:Nat}
variable {x:Operand}{v:Value}{i:Nat}
theorem QE(U:s.q=false){l:List Nat}(K:Region.ready .any ops listed=l)(Y:l≠ [])(h:∀i∈l,Take J Q b n ds ops k cs m D fuel listed L s i):AZ J Q b n ds ops k cs m D (fuel+1) listed L s:=
 Uz U (by rw [K];exact Y) λi hi o O=>by
  rw [K] at hi
  obtain⟨o',Z,ac,ag,al,am⟩:=h i hi
  obtain rfl:o'=o:=by rw [Z] at O;exact Option.some.inj O
  exact⟨ac,ag,true,al,λe=>(by cases e),λ_=>am⟩
theorem JG.one(K:s.q=false)(O:Region.ready .any ops listed= [i])(h:Take J Q b n ds ops k cs m D fuel listed L s i):AZ J Q b n ds ops k cs m D (fuel+1) listed L s:=
 QE K O (by simp) (by simpa using h)
theorem Gz{i j:Nat}(K:s.q=false)(O:Region.ready .any ops listed= [i,j])(hi:Take J Q b n ds ops k cs m D fuel listed L s i)(U:Take J Q b n ds ops k cs m D fuel listed L s j):AZ J Q b n ds ops k cs m D (fuel+1) listed L s:=
 QE K O (by simp) (by intro q K;simp at K;rcases K with rfl | rfl <;> assumption)
end
theorem OL.iF{α:Type}{e:TypeId}{pp:Rp α}{E0 E H:LH}{S:List Seg}{a:Option Addr}{c j:Nat}{seg:Seg}{xs:List α}(U:OL e pp E0 a c seg xs)(ac:Au E H S)(ag:S[j]? =some seg):∃wss:List (Lv_),Im (Ak E H S) (.slice a xs.length c) pp.n wss.flatten/\wss.length=xs.length/\∀(i:Nat) x ws,xs[i]? =some x->wss[i]? =some ws->pp.r E0 ws x:=by
 obtain⟨wss,U,al,am⟩:=U;refine⟨wss,?_,al,am⟩;rcases U with⟨rfl,ap,Z,Y,K⟩ | ⟨bk,f,rfl,rfl,Z,Y,K⟩
 .exact⟨ap,K⟩
 .have hle:xs.length*pp.n<=f.size:=by rw [Z];exact Nat.mul_le_mul_right _ Y
  refine⟨.inl V,by rw [K];simp [hle],Y,λq w O=>?_⟩;rw [K,List.getElem?_take] at O;split at O
  .refine B5 ac ag ?_;simpa using O
  .cases O
section
variable {x:Operand}
theorem cD{E0:LH}{ρ:Operand->Value}{K:Next->St->Prop}{α:Type}{pp:Rp α}{t1:TypeId}{a1 c cx:Nat}{a ax:Option Addr}{seg:Seg}{xs ys a2:List α}{ats:Array TypeId}{z:Value}(j:Nat)(ay:EK xs ys=some a2)
  (bn:ρ x= .slice a xs.length c) (bo:ρ y= .slice ax ys.length cx) (bv:ats[0]? =some t) (bw:ats[1]? =some t1) (bx:P.underlying t=some (.slice e)) (bz:P.underlying t1=some (.slice e)) (b0:By P e=some pp.n) (hb:F4 P e=some a1) (b1:zeroOf P e=some z) (b2:z.cells.size=pp.n)
  (b3:0<a1) (b4:a1<=64) (av:OL e pp E0 a c seg xs) (b5:∃Z:List (Lv_),Im (Ak E H S) (.slice ax ys.length cx) pp.n Z.flatten/\Z.length=ys.length/\∀(i:Nat) x ws,ys[i]? =some x->Z[i]? =some ws->pp.r E0 ws x) (b6:Au E H S) (a8:S[j]? =some seg)
  (h:∀Y O g seg',OL e pp E0 Y O seg' a2->Au E H (S.set j (g++seg'))->K (.value (.slice Y a2.length O)) (Ak E H (S.set j (g++seg')))):
  lp P (execOp ρ ⟨d,.call ⟨.builtin .append,#[x,y],ats⟩,ty,p,af,g⟩) (Ak E H S) K (λ_ _=>False):=by
 unfold EK at ay;split at ay
 rotate_left
 .cases ay
 rename_i ca;cases ay;obtain⟨Z,a9,az,a3⟩:=b5;obtain⟨wss,av,bb,cc⟩:=av;obtain⟨ce,a4⟩:=Hg b6 a8;have ci:=IM az a3;have co:∀w∈Z.flatten,C5 w=true:=λw hw=>by
  obtain⟨us,cp,hw⟩:=List.mem_flatten.1 hw;obtain⟨q,be⟩:=List.mem_iff_getElem?.1 cp;have ct:q<ys.length:=by rw [← az];exact(List.getElem?_eq_some_iff.1 be).1
  exact pp.one (a3 q _ us (List.getElem?_eq_getElem ct) be) w hw
 have hlen:(xs++ys).length=xs.length+ys.length:=by simp
 rw [ce] at a9 ⊢;rw [MP,bn,bo];have a5:∀{Y O seg'},GS e pp.n Y (xs.length+ys.length) O seg' (wss.flatten++Z.flatten)->OL e pp E0 Y O seg' (xs++ys):=λcw=>
  ⟨wss++Z,by rw [hlen,List.flatten_append];exact cw,by simp [bb,az],Oi bb cc a3⟩
 have fin:∀Y O g seg',OL e pp E0 Y O seg' (xs++ys)->Nd E H ((S.set j []).flatten++(g++seg'))->K (.value (.slice Y (xs.length+ys.length) O)) (mk E H ((S.set j []).flatten++(g++seg'))):=λY O g seg' cy ag=>by
  obtain⟨c0,c1⟩:=Jp a8 ag;rw [c0];have:=h Y O g seg' cy c1;rw [hlen] at this;exact this
 have c2:PM ((S.set j []).flatten++seg) (S.set j []).flatten.length e pp.n a xs.length c wss.flatten:=by
  rcases av with⟨U,ac,aw,am,ap⟩ | ⟨bk,f,U,ac,aw,am,ap⟩
  .exact .inl ⟨U,ac,aw,ap⟩
  .refine .inr ⟨bk,f,U,?_,aw,am,ap⟩;subst ac;simp
 refine Ay _ _ (QN (pl:=(S.set j []).flatten.length) bv bw bz bx b0 hb b1 b2 a4 c2 a9 co b3 ca b4 ?_ ?_ ?_)
 .intro bk f al a0 c9 dd c3 a6 a7 ag;rcases av with⟨U,_⟩ | ⟨aq,f0,U,ac,aw,am,ap⟩
  .rw [U] at a0;cases a0
  .subst ac;have c4:aq=bk:=by rw [U] at a0;simpa using a0
   subst c4;have c5:((S.set j []).flatten++ [(aq,Obj.cells f0 e (0,0))]).set (S.set j []).flatten.length (aq,.cells al e (0,0))=(S.set j []).flatten++ [(aq,.cells al e (0,0))]:=Jl _ _ _ _;rw [c5] at ag ⊢;exact fin a c [] _ (a5 (.inr ⟨aq,al,U,V,a6,c3,a7.symm⟩)) ag
 .intro bi hm;rcases av with⟨U,ac,aw,am,ap⟩ | ⟨aq,f0,U,_⟩
  .have c6:Z.flatten= []:=List.eq_nil_of_length_eq_zero (by rw [MQ ci,az,hm];simp);have:=fin none 0 [] [] (a5 (by rw [ac,hm,ap,c6];exact GS.nil)) (by rw [am] at a4;simpa using a4);rw [ac,hm] at this;rw [am];simp only [List.append_nil] at this ⊢;exact this
  .rw [U] at bi;cases bi
 .intro r al O c7 a6 a7 ag;have c8:(S.set j []).flatten++seg++ [(r,Obj.cells al e (0,0))]=(S.set j []).flatten++(seg++ [(r,.cells al e (0,0))]):=List.append_assoc _ _ _;rw [c8] at ag ⊢;exact fin (some ⟨r,0,none⟩) O seg _ (a5 (.inr ⟨r,al,V,V,a6,c7,a7.symm⟩)) ag
theorem bW{E0:LH}{ρ:Operand->Value}{K:Next->St->Prop}{α:Type}{pp:Rp α}{t1:TypeId}{O c cx:Nat}{a ax:Option Addr}{seg Y:Seg}{xs ys U:List α}{ats:Array TypeId}{z:Value}(j al:Nat)(am:EK xs ys=some U)
  (ap:ρ x= .slice a xs.length c) (aq:ρ y= .slice ax ys.length cx) (av:ats[0]? =some t) (aw:ats[1]? =some t1) (ay:P.underlying t=some (.slice e)) (az:P.underlying t1=some (.slice e)) (a0:By P e=some pp.n) (hb:F4 P e=some O) (a1:zeroOf P e=some z) (a2:z.cells.size=pp.n)
  (a3:0<O) (a4:O<=64) (a5:OL e pp E0 a c seg xs) (a6:OL e pp E0 ax cx Y ys) (Z:Au E H S) (a7:S[j]? =some seg) (a8:S[al]? =some Y)
  (h:∀ac ag g seg',OL e pp E0 ac ag seg' U->Au E H (S.set j (g++seg'))->K (.value (.slice ac U.length ag)) (Ak E H (S.set j (g++seg')))):
  lp P (execOp ρ ⟨d,.call ⟨.builtin .append,#[x,y],ats⟩,ty,p,af,g⟩) (Ak E H S) K (λ_ _=>False):=
 cD j am ap aq av aw ay az a0 hb a1 a2 a3 a4 a5 (a6.iF Z a8) Z a7 h
end
section
variable {b:Frame}{n:Nat}{m fuel:Nat}
variable {x:Operand}{v:Value}{i:Nat}
end
section
variable {b:Frame}{n:Nat}{m fuel:Nat}
variable {x:Operand}{v:Value}{i:Nat}
theorem Take.NO{oi:Oper}(hi:ops[i]? =some oi)(K:(!Ey oi.op&&Bu n oi.dst)=true)(hw:AY L ops oi=some true)
  (h:∀ρ,Fa L ρ->lp P (execOp ρ oi) s (λO s'=>match O with
   | .value v=>AZ J Q b n ds ops k cs m DR fuel (Bm listed i) (AB L oi.dst v) s'
   | .skip=>AZ J Q b n ds ops k cs m DR fuel (Bm listed i) (AB L oi.dst undef) s'
   | _=>False) (λ_ _=>False)):Take J Q b n ds ops k cs m DR fuel listed L s i:=by
 simp only [Bool.and_eq_true] at K
 refine⟨oi,hi,K.1,K.2,hw,λρ Y=>Er _ (h ρ Y) ?_ (λ_ _ h=>h)⟩
 intro O s' U
 cases O with
 | value v=>exact U
 | skip=>exact U
 | _=>exact U.elim
theorem Take.Fx{α:Type}{pp:Rp α}{len:Nat}{ps:Array (Nat×Operand)}(vs:Lv_){z:Value}(xs:List α)(K:Au E H S)
  (O:ops[i]? =some ⟨d,.buildSlice t len ps,ty,p,af,g⟩) (hw:AY L ops ⟨d,.buildSlice t len ps,ty,p,af,g⟩=some true) (U:Bu n d=true)
  (Y:P.underlying t=some (.slice e)) (Z:By P e=some pp.n) (ac:zeroOf P e=some z) (ag:decide (0<len*pp.n/\len*pp.n<=2 ^ 24)=true)
  (al:ps.toList.mapM (λq=>(ev L q.2).map λv=>(q.1,v))=some ((vs.zipIdx 0).map λq=>(q.2,q.1)))
  (am:vs.length=len) (ap:xs.length=len) (aq:Ly pp E xs vs)
  (h:∀r seg,OL e pp E (some ⟨r,0,none⟩) len seg xs->Au E H (S++ [seg])->AZ J Q b n ds ops k cs m DR fuel (Bm listed i) (AB L d (.slice (some ⟨r,0,none⟩) xs.length len)) (Ak E H (S++ [seg]))):
  Take J Q b n ds ops k cs m DR fuel listed L (Ak E H S) i:=
 Take.NO O (by simp [Ey,U]) hw λρ av=>V0 av vs xs Y Z ac ag al am ap aq K λr seg aw ay=>h r seg aw ay
theorem Take.app0{α:Type}{pp:Rp α}{t1:TypeId}{U c cx:Nat}{a ax:Option Addr}{seg Z:Seg}{xs ys Y:List α}{ats:Array TypeId}{z:Value}(j ac:Nat)(al:Au E H S)(am:EK xs ys=some Y)
  (ap:ops[i]? =some ⟨d,.call ⟨.builtin .append,#[x,y],ats⟩,ty,p,af,g⟩) (hw:AY L ops ⟨d,.call ⟨.builtin .append,#[x,y],ats⟩,ty,p,af,g⟩=some true) (aq:Bu n d=true)
  (av:ev L x=some (.slice a xs.length c)) (aw:ev L y=some (.slice ax ys.length cx)) (ay:ats[0]? =some t) (az:ats[1]? =some t1) (a0:P.underlying t=some (.slice e)) (a1:P.underlying t1=some (.slice e)) (a2:By P e=some pp.n) (hb:F4 P e=some U) (a3:zeroOf P e=some z) (a4:z.cells.size=pp.n)
  (a5:0<U) (a6:U<=64) (a7:OL e pp E a c seg xs) (a8:OL e pp E ax cx Z ys) (a9:S[j]? =some seg) (bb:S[ac]? =some Z)
  (h:∀K O g seg',OL e pp E K O seg' Y->Au E H (S.set j (g++seg'))->AZ J Q b n ds ops k cs m DR fuel (Bm listed i) (AB L d (.slice K Y.length O)) (Ak E H (S.set j (g++seg')))):
  Take J Q b n ds ops k cs m DR fuel listed L (Ak E H S) i:=
 Take.NO ap (by simp [Ey,aq]) hw λρ ag=>bW j ac am (ag _ _ av) (ag _ _ aw) ay az a0 a1 a2 hb a3 a4 a5 a6 a7 a8 al a9 bb λK O be seg' bi bn=>h K O be seg' bi bn
theorem Take.J3{z:Value}(O:Au E H S)(U:ops[i]? =some ⟨d,.alloc e,ty,p,af,g⟩)(hw:AY L ops ⟨d,.alloc e,ty,p,af,g⟩=some true)(Y:Bu n d=true)(Z:zeroOf P e=some z)
  (h:∀r,Au E H (S++ [[(r,.cells z.cells e (0,0))]])->AZ J Q b n ds ops k cs m DR fuel (Bm listed i) (AB L d (.pointer (some ⟨r,0,none⟩))) (Ak E H (S++ [[(r,.cells z.cells e (0,0))]]))):
  Take J Q b n ds ops k cs m DR fuel listed L (Ak E H S) i:=
 Take.NO U (by simp [Ey,Y]) hw λρ _=>by
  show lp P (do pure (Next.value (← Instr.alloc e true (.tuple #[])))) _ _ _
  refine Ay _ _ ?_
  unfold Instr.alloc
  refine Ay _ _ (H8 Z ?_)
  refine Ay _ _ (JX O λr K=>?_)
  rw [(FN K).1]
  exact h r (FN K).2
end
theorem B6{α:Type}{kk:Nat}{pp:Rp α}{E:LH}{ws:Lv_}{xs:List α}(K:(rA kk pp).r E ws xs):ws.length=kk*pp.n:=(rA kk pp).len K
theorem Ic{α:Type}{kk:Nat}{pp:Rp α}{E:LH}{ws:Lv_}{xs:List α}{m:Int}{x:α}(O:(rA kk pp).r E ws xs)(hm:ix xs m=some x):∃us,pp.r E us x/\0<=m/\m<kk/\(∀j w,us[j]? =some w->ws[m.toNat*pp.n+j]? =some w):=by
 obtain⟨U,wss,rfl,Y,K⟩:=O;obtain⟨m,rfl,hm⟩:=Gi hm;have ac:m<xs.length:=(List.getElem?_eq_some_iff.1 hm).1;have hw:wss[m]? =some wss[m]:=List.getElem?_eq_getElem (by omega);exact⟨wss[m],K m x _ hm hw,by omega,by omega,λj w Z=>K9 (IM (Y.trans U.symm) K) hw j w Z⟩
section
variable {b:Frame}{n:Nat}
variable {x:Operand}{i:Nat}
theorem HA{α:Type}{kk:Nat}{pp:Rp α}{a:Addr}{ws:Lv_}{xs:List α}(K:(rA kk pp).r E ws xs)(O:DU P t=some true)(U:By P t=some (kk*pp.n))(Y:ρ x= .pointer (some a))(h:∀j v,ws[j]? =some v->s.cell? (a.add j)=some v):Yl P ⟨d,.load t x,ty,p,af,g⟩ ρ s (.agg ws.toArray):=
 IN O (by rw [B6 K];exact U) Y h
theorem VJ{α:Type}{pp:Rp α}{kk:Nat}{ws:Lv_}{xs:List α}{xv:α}{m:Int}{O:Bool}(Y:(rA kk pp).r E ws xs)(hm:ix xs m=some xv)
  (aq:ops[i]? =some ⟨d,.index t x y,ty,p,af,g⟩) (hw:AY L ops ⟨d,.index t x y,ty,p,af,g⟩=some true) (av:BU b n ⟨d,.index t x y,ty,p,af,g⟩=true)
  (aw:ev L x=some (.agg ws.toArray)) (ay:ev L y=some (.int kd m)) (az:P.underlying t=some (.array kk e)) (Z:By P e=some pp.n) (a0:DU P e=some O)
  (h:∀us,pp.r E us xv->JL J Q b n (AB L d (if O then .agg us.toArray else us.headD undef)) ds (.inRegion ops rest::k) cs s) (a1:O=false->pp.n=1):
  JL J Q b n L ds (.inRegion ops (i::rest)::k) cs s:=by
 obtain⟨us,ac,a2,a3,ag⟩:=Ic Y hm;have hlen:=pp.len ac;have a4:=B6 Y;refine Be aq hw av (λρ al=>?_) (h us ac);refine FM (sm:=Instr.index t (ρ x) (ρ y)) V ?_;rw [al _ _ aw,al _ _ ay];unfold Instr.index;simp only [asIntOf,IG];refine Ay (x:=underlying t) _ (Cx az ?_);simp only [a2,a3,and_self,if_true];refine Ay (x:=Go.sizeOf e) _ (Fh Z ?_);unfold Go.part;refine Ay (x:=isAgg e) _ (Oz a0 ?_);have a6:m.toNat*pp.n+pp.n<=ws.length:=by
  rw [a4];have:(m.toNat+1)*pp.n<=kk*pp.n:=Nat.mul_le_mul_right _ (by omega);rw [Nat.succ_mul] at this;exact this
 cases O with
 | true=>
  simp only [if_true];refine Ay (x:=Go.sizeOf e) _ (Fh Z ?_);have a5:ws.toArray.extract (m.toNat*pp.n) (m.toNat*pp.n+pp.n)=us.toArray:=by
   apply Array.ext_getElem?;intro j;by_cases am:j<us.length
   .have U:=ag j us[j] (List.getElem?_eq_getElem am);simp only [Array.getElem?_extract,List.size_toArray,List.getElem?_toArray];rw [if_pos (by omega),U];simp [am]
   .rw [Array.getElem?_eq_none (by simp;omega),Array.getElem?_eq_none (by simp;omega)]
  rw [a5];exact⟨V,V⟩
 | false=>
  have ap:=a1 V;obtain⟨w,rfl⟩:∃w,us= [w]:=by
   match us,hlen with
   | [w],_=>exact⟨w,rfl⟩
   | [],K=>rw [ap] at K;cases K
   | _::_::_,K=>rw [ap] at K;simp at K
  have U:=ag 0 w V;simp only [Bool.false_eq_true,if_false,List.getElem?_toArray];rw [Nat.add_zero] at U;rw [U];exact⟨V,V⟩
end
def HH(S:List Seg):List Nat->Prop
 | []=>True
 | bk::bks=>(∃(j:Nat) (o:Obj),S[j]? =some [(bk,o)])/\HH S bks
theorem HH.mem{S:List Seg}:∀{bks:List Nat},HH S bks->∀bk∈bks,∃(j:Nat) (o:Obj),S[j]? =some [(bk,o)]
 | [],_,_,h=>by cases h
 | b::bks,h,bk,hb=>by
  rcases List.mem_cons.1 hb with rfl | hb
  .exact h.1
  .exact h.2.mem bk hb
theorem HH.free{E H:LH}{S:List Seg}{bks:List Nat}(h:HH S bks)(K:Au E H S):∀x,AD bks x=true->E x=none:=λx O=>by
 obtain⟨j,o,U⟩:=h.mem x (by simpa [AD] using O)
 exact Pw K U
section
variable {b:Frame}{n:Nat}{m fuel:Nat}
variable {x:Operand}{v:Value}{i:Nat}
theorem ab{bks:List Nat}{f:FuncId}{args:Array Operand}{ats:Array TypeId}{vs:Lv_}{R:Value->LH->Seg->Prop}(am:HH S bks)(ap:AT J f vs E [] R)(aq:Region.ready .any ops listed= [i])
  (av:ops[i]? =some ⟨d,.call ⟨.value (.func f),args,ats⟩,ty,p,af,g⟩) (aw:Bu n d=true) (hw:AY L ops ⟨d,.call ⟨.value (.func f),args,ats⟩,ty,p,af,g⟩=some true) (hb:Ec P f=true) (ay:evs L args.toList=some vs) (Z:Au E H S)
  (az:∀v E' seg',Le E E'->R v E' seg'->Au E' H (S++ [seg'])->AZ J Q b n ds ops k cs m (AD bks) fuel (Bm listed i) (AB L d v) (Ak E' H (S++ [seg']))):
  AZ J Q b n ds ops k cs m (AD bks) (fuel+1) listed L (Ak E H S):=by
 have a0:=EW.LG (ap (Bq S.flatten H) trivial) (by rintro v s' ⟨E',B',_,_,_,rfl⟩;rfl);refine AZ.call V aq av aw hw hb ay a0 ?_;rintro v a8 ⟨⟨E',B',hle,a1,a2,rfl⟩,w,a3⟩;have e2:mk E' (Bq S.flatten H) B'=mk E' H (B'++S.flatten):=by unfold mk;rw [F0]
 have a4:Nd E' H S.flatten:=Nd.grow Z λx O=>by
  have a5:=a3.d x O;have U:Bq B' (Bq S.flatten H) x=none:=a5;exact(H7 U).1
 have ac:Nd E' H (B'++S.flatten):=Nd.glue a2 a4;have ag:(B'++S.flatten).Perm (S++ [B']).flatten:=by rw [Hc];exact List.perm_append_comm
 have al:Au E' H (S++ [B']):=Nd.perm ac ag;rw [e2,Fs ac ag];refine⟨V,λx o O=>?_,az v E' B' hle a1 al⟩;by_cases hd:AD bks x=true
 .obtain⟨j,o',Y⟩:=am.mem x (by simpa [AD] using hd);have U:(Ak E H S).get x=some o':=DO (i:=0) Z Y V;have a6:j<S.length:=(List.getElem?_eq_some_iff.1 Y).1;have a7:(Ak E' H (S++ [B'])).get x=some o':=DO (i:=0) al (by rw [List.getElem?_append_left a6];exact Y) rfl;have K:(if AD bks x then(Ak E H S).get x else E x)=some o:=O
  show(if AD bks x then(Ak E' H (S++ [B'])).get x else E' x)=some o
  rw [if_pos hd] at K ⊢;rw [a7,← U];exact K
 .have K:(if AD bks x then(Ak E H S).get x else E x)=some o:=O
  show(if AD bks x then(Ak E' H (S++ [B'])).get x else E' x)=some o
  rw [if_neg hd] at K ⊢;exact hle _ _ K
theorem bm(m:Nat)(bks:List Nat){id:Nat}(U:HH S bks)(Y:Au E H S)(hm:P.follows .mixedOrders=true)(K:(b.kind != .early)=true)(O:Es ops m=true)
  (h:Es ops m=true->AZ J Q b n ds ops k cs m (AD bks) ops.size (Array.replicate ops.size false) L (Ak E H S)):JL J Q b n L ds (.code (.region id ops true)::k) cs (Ak E H S):=
 QY m (AD bks) V hm K (h O)
theorem BM{bks:List Nat}{bk o:Nat}{c:Av_}{f:Nat×Nat}{w:Value}{s':St}(j:Nat)(K:Au E H S)(O:S[j]? =some [(bk,.cells c e f)])(U:AD bks bk=true)(Y:∀x o,(Bz (AD bks) (Ak E H S)).E x=some o->s'.E x=some o)(hw:c[o]? =some w):s'.cell? ⟨bk,o,none⟩=some w:=by
 have Z:(Bz (AD bks) (Ak E H S)).E bk=some (.cells c e f):=by
  show(if AD bks bk then(Ak E H S).get bk else E bk)=_
  rw [if_pos U];exact DO (i:=0) K O V
 have ac:=Y _ _ Z;unfold St.cell? St.get;rw [ac];exact hw
theorem Wq{bks:List Nat}{s':St}(O:Au E H S)(U:∀x o,(Bz (AD bks) (Ak E H S)).E x=some o->s'.E x=some o)(Y:HH S bks):∀x o,E x=some o->s'.E x=some o:=λx o K=>U x o (by
 show(if AD bks x then(Ak E H S).get x else E x)=some o
 rw [if_neg (λhd=>by rw [Y.free O x hd] at K;cases K)];exact K)
end
theorem Z6{P:Program}{s:St}{ρ:Operand->Value}{x y:Operand}{d:Option Tmp}{t ty e:TypeId}{p:String}{af:Ae_}{g:On_}{kd:IntKind}{α:Type}{xs:List α}{xv:α}{m:Int}{bk c K:Nat}(hm:ix xs m=some xv)(O:P.underlying t=some (.slice e))(U:By P e=some K)(Y:ρ x= .slice (some ⟨bk,0,none⟩) xs.length c)(Z:ρ y= .int kd m):
  Yl P ⟨d,.indexAddr t x y,ty,p,af,g⟩ ρ s (.pointer (some ⟨bk,m.toNat*K,none⟩)):=by
 obtain⟨m,rfl,hm⟩:=Gi hm;have ac:m<xs.length:=(List.getElem?_eq_some_iff.1 hm).1;have:=MY (P:=P) (s:=s) (d:=d) (ty:=ty) (p:=p) (af:=af) (g:=g) O U Y Z ⟨by omega,by omega⟩;rw [Ek rfl] at this;simpa using this
def Ja(ws:Lv_)(q:Nat)(us:Lv_):Lv_:=(A9 ws.toArray q us).toList
theorem OA{ws us:Lv_}{q:Nat}(h:q+us.length<=ws.length)(j:Nat):(Ja ws q us)[j]? =if q<=j/\j<q+us.length then us[j - q]? else ws[j]? :=by
 unfold Ja;rw [Array.getElem?_toList,MV us _ q (by simpa using h)];simp
theorem X1{l ws us:Lv_}{q:Nat}(h:q+us.length<=ws.length):A9 (l++ws).toArray (l.length+q) us=(l++Ja ws q us).toArray:=by
 apply Array.ext_getElem?;intro j;rw [MV us _ _ (by simp;omega)];simp only [List.getElem?_toArray];by_cases O:l.length+q<=j/\j<l.length+q+us.length
 .rw [if_pos O,List.getElem?_append_right (by omega),OA h,if_pos (by omega)];congr 1;omega
 .rw [if_neg O];rcases Nat.lt_or_ge j l.length with K | K
  .rw [List.getElem?_append_left K,List.getElem?_append_left K]
  .rw [List.getElem?_append_right K,List.getElem?_append_right K,OA h,if_neg (by omega)]
theorem Ji{ws us:Lv_}(h:us.length=ws.length):Ja ws 0 us=us:=by
 apply List.ext_getElem?;intro j;rw [OA (by omega)];split
 .simp
 .rename_i K;rw [List.getElem?_eq_none (by omega),List.getElem?_eq_none (by omega)]
theorem GX{E H:LH}{S:List Seg}{bk:Nat}{l ws:Lv_}{e:TypeId}{f:Nat×Nat}(j:Nat)(K:Au E H S)(O:S[j]? =some [(bk,.cells (l++ws).toArray e f)]):∀q v,ws[q]? =some v->(Ak E H S).cell? (Addr.add ⟨bk,l.length,none⟩ q)=some v:=λq v U=>by
 rw [Ek rfl]
 refine B5 K O ?_
 simp only [List.getElem?_toArray]
 rw [List.getElem?_append_right (by omega)]
 rw [show l.length+q - l.length=q by omega];exact U
theorem JV{E H:LH}{S:List Seg}{bk o:Nat}{l ws:Lv_}{e:TypeId}{f:Nat×Nat}{w:Value}(j:Nat)(K:Au E H S)(O:S[j]? =some [(bk,.cells (l++ws).toArray e f)])(U:ws[o]? =some w):(Ak E H S).cell? ⟨bk,l.length+o,none⟩=some w:=by
 have:=GX j K O o w U
 rwa [Ek rfl] at this
theorem Pq{α:Type}{kk:Nat}{pp:Rp α}{E:LH}{ws us:Lv_}{xs:List α}{m:Int}{x y:α}(Z:(rA kk pp).r E ws xs)(hm:ix xs m=some x)(hu:pp.r E us y):(rA kk pp).r E (Ja ws (m.toNat*pp.n) us) (xs.set m.toNat y)/\m.toNat*pp.n+us.length<=ws.length:=by
 have aw:=B6 Z;obtain⟨ac,wss,rfl,ag,al⟩:=Z;obtain⟨m,rfl,hm⟩:=Gi hm;have ay:m<xs.length:=(List.getElem?_eq_some_iff.1 hm).1;have am:=pp.len hu;have az:=IM (ag.trans ac.symm) al;have ap:m*pp.n+us.length<=wss.flatten.length:=by
  rw [aw,am];have:(m+1)*pp.n<=kk*pp.n:=Nat.mul_le_mul_right _ (by omega);rw [Nat.succ_mul] at this;exact this
 simp only [Int.toNat_natCast];refine⟨⟨by simpa using ac,wss.set m us,?_,by simpa using ag,λi a0 a1 O U=>?_⟩,ap⟩
 .apply List.ext_getElem?;intro j;rw [OA ap];have key:∀(wss:List (Lv_)) (m:Nat) (hm:m<wss.length),(∀ws∈wss,ws.length=pp.n)->∀j,(wss.set m us).flatten[j]? =if m*pp.n<=j/\j<m*pp.n+us.length then us[j - m*pp.n]? else wss.flatten[j]? :=by
   intro wss
   induction wss with
   | nil=>intro m hm;simp at hm
   | cons vs wss a2=>
    intro m hm aq j;have a3:vs.length=pp.n:=aq vs (by simp);cases m with
    | zero=>
     simp only [List.set_cons_zero,List.flatten_cons,Nat.zero_mul,Nat.zero_le,true_and,Nat.zero_add,Nat.sub_zero];split
     .rename_i K;rw [List.getElem?_append_left K]
     .rename_i K;rw [List.getElem?_append_right (by omega),List.getElem?_append_right (by omega),am,a3]
    | succ m=>
     simp only [List.set_cons_succ,List.flatten_cons];have Y:(m+1)*pp.n=m*pp.n+pp.n:=Nat.succ_mul _ _;rcases Nat.lt_or_ge j vs.length with K | K
     .rw [List.getElem?_append_left K,List.getElem?_append_left K,if_neg (by omega)]
     .rw [List.getElem?_append_right K,List.getElem?_append_right K,a2 m (by simpa using hm) (λws a4=>aq ws (List.mem_cons_of_mem _ a4))];by_cases av:m*pp.n<=j - vs.length/\j - vs.length<m*pp.n+us.length
      .rw [if_pos av,if_pos (by omega)];congr 1;omega
      .rw [if_neg av,if_neg (by omega)]
  exact(key wss m (by omega) az j).symm
 .rw [List.getElem?_set] at O U;by_cases Y:m=i
  .subst Y;rw [if_pos rfl,if_pos ay] at O;rw [if_pos rfl,if_pos (by omega)] at U;cases O;cases U;exact hu
  .rw [if_neg Y] at O U;exact al i a0 a1 O U
theorem Gg{α:Type}{kk:Nat}{pp:Rp α}{E:LH}{w:Value}{x:α}(h:pp.r E [w] x):(rA kk pp).r E (List.replicate kk w) (List.replicate kk x):=by
 refine⟨by simp,List.replicate kk [w],?_,by simp,λi y us K hu=>?_⟩
 .induction kk with
  | zero=>rfl
  | succ k O=>rw [List.replicate_succ,List.replicate_succ,List.flatten_cons,← O];rfl
 .have U:=List.eq_of_mem_replicate (List.mem_of_getElem? K);have e2:=List.eq_of_mem_replicate (List.mem_of_getElem? hu);subst U e2;exact h
section
variable {b:Frame}{n:Nat}
variable {x:Operand}{i:Nat}
theorem JY{α:Type}{kk:Nat}{pp:Rp α}{ws:Lv_}{xs:List α}{xv:α}{m:Int}{bk o:Nat}(K:(rA kk pp).r E ws xs)(hm:ix xs m=some xv)(O:P.underlying t=some (.array kk e))(U:By P e=some pp.n)(Y:ρ x= .pointer (some ⟨bk,o,none⟩))(Z:ρ y= .int kd m):
  Yl P ⟨d,.indexAddr t x y,ty,p,af,g⟩ ρ s (.pointer (some ⟨bk,o+m.toNat*pp.n,none⟩)):=by
 obtain⟨us,al,ac,ag,am⟩:=Ic K hm;have:=TK (P:=P) (s:=s) (d:=d) (ty:=ty) (p:=p) (af:=af) (g:=g) O U Y Z ⟨ac,ag⟩;rw [Ek rfl] at this;exact this
theorem Hb{bk o:Nat}{l ws us:Lv_}{v:Value}(j:Nat)(U:ops[i]? =some ⟨d,.store t x y,ty,p,af,g⟩)(hw:AY L ops ⟨d,.store t x y,ty,p,af,g⟩=some true)(Y:BU b n ⟨d,.store t x y,ty,p,af,g⟩=true)(Z:Au E H S)
  (ac:ev L x=some (.pointer (some ⟨bk,l.length+o,none⟩))) (ag:ev L y=some v) (K:v.cells.toList=us) (al:By P t=some us.length) (am:∀u∈us,C5 u=true) (ap:S[j]? =some [(bk,.cells (l++ws).toArray e (0,0))]) (hle:o+us.length<=ws.length)
  (h:Au E H (S.set j [(bk,.cells (l++Ja ws o us).toArray e (0,0))])->JL J Q b n (AB L d undef) ds (.inRegion ops rest::k) cs (Ak E H (S.set j [(bk,.cells (l++Ja ws o us).toArray e (0,0))]))):
  JL J Q b n L ds (.inRegion ops (i::rest)::k) cs (Ak E H S):=by
 have aq:v.cells.size=us.length:=by rw [← K];simp
 refine JS.store (v:=v) (off:=l.length+o) j U hw Y Z ac ag (by rw [aq];exact al) (by rw [K];exact am) ap (by simp;omega) λO=>?_;rw [K,X1 hle] at O ⊢;exact h O
end
section
variable {x:Operand}{v:Value}
theorem Wi{n:Nat}{kd:IntKind}{a b:Int}(K:P.underlying t=some (.int kd)){Q:Bool->St->Prop}{X:Halt->St->Prop}(k:Q (a==b) s):lp P (Op.equalIn (n+1) t (.int kd a) (.int kd b)) s Q X:=by
 unfold Op.equalIn;refine Ay _ _ (Cx K ?_);simp only [if_true];exact k
end
theorem Ug{E H:LH}{S:List Seg}{bks:List Nat}{bk:Nat}{l ws:Lv_}{e:TypeId}{f:Nat×Nat}{s':St}(j:Nat)(K:Au E H S)(O:S[j]? =some [(bk,.cells (l++ws).toArray e f)])(U:AD bks bk=true)(Y:∀x o,(Bz (AD bks) (Ak E H S)).E x=some o->s'.E x=some o):∀q v,ws[q]? =some v->s'.cell? (Addr.add ⟨bk,l.length,none⟩ q)=some v:=λq v Z=>by
 rw [Ek rfl]
 refine BM j K O U Y ?_
 simp only [List.getElem?_toArray]
 rw [List.getElem?_append_right (by omega)]
 rw [show l.length+q - l.length=q by omega];exact Z
variable {xt t1 t2:TypeId}{o:Option (Int×Option Int)}
section
variable {x:Operand}{v:Value}
end
def W4{P:Program}(J:Judge P)(v:Value)(args:Av_)(s:St)(R:Value->St->Prop):Prop:=
 ∀(Q:Gs_) (c:Frame) (cs:Lf_),(∀w s',R w s'->J.ok Q (G (c.finish w) cs) s')->
  lp P (do let d ← Deferred.ofValue v args;invoke d.target d.args) s (λK s'=>match K with
   | .enter f a=>J.ok Q (G (Frame.enter P f a .normal) (c::cs)) s'
   | .round l f tm as O=>J.ok Q (G (Frame.round l f tm as O .normal) (c::cs)) s'
   | _=>False) (λ_ _=>False)
def Gt{P:Program}(J:Judge P)(v:Value)(args:Lv_)(E:LH)(B:Seg)(R:Value->LH->Seg->Prop):Prop:=
 ∀H,Nd E H B->W4 J v args.toArray (mk E H B) (λv s'=>∃E' B',Le E E'/\R v E' B'/\Nd E' H B'/\s'=mk E' H B')
section
variable {b:Frame}{n:Nat}{i:Nat}
theorem Gt.ofFn{f:FuncId}{caps vs:Lv_}{B:Seg}{R:Value->LH->Seg->Prop}(hb:Ec P f=true)(h:AT J f (vs++caps) E B R):Gt J (.func (.func f) #[] caps.toArray) vs E B R:=λH K Q c cs O=>by
 simp only [Deferred.ofValue,bind,Sem.bind,pure,invoke]
 have e: #[]++vs.toArray++caps.toArray=(vs++caps).toArray:=by simp
 rw [e];exact JN hb (h H K Q c cs O)
theorem Zx{x:Operand}{O:Value}{args:Array Operand}{ats:Array TypeId}{s:St}{vs:Lv_}{R:Value->St->Prop}
  (Y:ops[i]? =some ⟨d,.call ⟨.value x,args,ats⟩,ty,p,af,g⟩) (hw:AY L ops ⟨d,.call ⟨.value x,args,ats⟩,ty,p,af,g⟩=some true) (U:((b.kind != .early)&&Bu n d)=true)
  (Z:ev L x=some O) (ac:evs L args.toList=some vs) (ag:W4 J O vs.toArray s R) (al:∀v s',R v s'->JL J Q b n (AB L d v) ds (.inRegion ops rest::k) cs s'):
  JL J Q b n L ds (.inRegion ops (i::rest)::k) cs s:=λT K=>by
 simp only [Bool.and_eq_true] at U
 have am:args.map (BJ T)=vs.toArray:=by
  rw [← Gf K.Gn ac];apply Array.ext';simp
 refine Judge.oper Y (Ci K hw) (by simpa using U.1) (.inr λc ap=>by cases ap) ?_;have hd:lp P (execOp (BJ T) ⟨d,.call ⟨.value x,args,ats⟩,ty,p,af,g⟩) s (upon J Q b T ds ops i rest k cs d) (Mo J Q b T ds ops i rest k cs):=by
  have aq:execOp (BJ T) ⟨d,.call ⟨.value x,args,ats⟩,ty,p,af,g⟩=(do let d ← Deferred.ofValue O vs.toArray;invoke d.target d.args):=by
   simp only [execOp,resolve,am,K.Gn _ _ Z]
  rw [aq];refine Er _ (ag Q (fr b T ds (.inRegion ops (i::rest)::k)) cs λv s' av=>?_) (λaw s' h=>?_) (λ_ _ h=>h.elim)
  .rw [GW (o:=⟨d,.call ⟨.value x,args,ats⟩,ty,p,af,g⟩) _ _ _ _ _ Y];exact al v s' av _ (K.put U.2 v)
  .cases aw <;> first | exact h | exact h.elim
 exact hd
theorem Mb{x:Operand}{O:Value}{args:Array Operand}{ats:Array TypeId}{vs:Lv_}{seg:Seg}{R:Value->LH->Seg->Prop}(j:Nat)
  (am:Gt J O vs E seg R) (ap:ops[i]? =some ⟨d,.call ⟨.value x,args,ats⟩,ty,p,af,g⟩) (hw:AY L ops ⟨d,.call ⟨.value x,args,ats⟩,ty,p,af,g⟩=some true) (aq:((b.kind != .early)&&Bu n d)=true)
  (K:ev L x=some O) (av:evs L args.toList=some vs) (U:Au E H S) (Y:S[j]? =some seg) (aw:∀v E' seg',Le E E'->R v E' seg'->Au E' H (S.set j seg')->JL J Q b n (AB L d v) ds (.inRegion ops rest::k) cs (Ak E' H (S.set j seg'))):
  JL J Q b n L ds (.inRegion ops (i::rest)::k) cs (Ak E H S):=by
 have Z:S.flatten.Perm (seg++(S.set j []).flatten):=(EG (seg':=seg) Y).1.trans List.perm_append_comm;have ac:Nd E H (seg++(S.set j []).flatten):=Nd.perm U Z;have ay:Ak E H S=mk E (Bq (S.set j []).flatten H) seg:=by
  rw [show Ak E H S=mk E H S.flatten from rfl,Fs U Z];unfold mk;rw [F0]
 rw [ay];refine Zx ap hw aq K av (am _ (Nd.front ac)) ?_;rintro v s' ⟨E',B',hle,az,a0,rfl⟩;have e2:mk E' (Bq (S.set j []).flatten H) B'=mk E' H (B'++(S.set j []).flatten):=by unfold mk;rw [F0]
 have a1:Nd E H (S.set j []).flatten:=by
  have:=ac;rw [Nd.iff] at this ⊢;rw [List.map_append,List.nodup_append] at this;exact⟨this.1.2.1,λq a2=>this.2 q (List.mem_append_right _ a2)⟩
 refine U9 V λ⟨w,a3⟩=>?_;have a4:Nd E' H (S.set j []).flatten:=a1.grow λx K=>by
  have a5:=a3.d x K;have a6:Bq B' (Bq (S.set j []).flatten H) x=none:=a5;exact(H7 a6).1
 have ag:Nd E' H (B'++(S.set j []).flatten):=Nd.glue a0 a4;rw [e2];have al:(B'++(S.set j []).flatten).Perm (S.set j B').flatten:=List.perm_append_comm.trans (EG Y).2.symm;rw [Fs ag al];exact aw v E' B' hle az (Nd.perm ag al)
theorem Take.jv{bks:List Nat}{m fuel:Nat}{listed:Array Bool}{f:FuncId}{args:Array Operand}{ats:Array TypeId}{vs:Lv_}{R:Value->LH->Seg->Prop}(ap:HH S bks)(Z:Au E H S)(aq:AT J f vs E [] R)
  (av:ops[i]? =some ⟨d,.call ⟨.value (.func f),args,ats⟩,ty,p,af,g⟩) (hw:AY L ops ⟨d,.call ⟨.value (.func f),args,ats⟩,ty,p,af,g⟩=some true) (aw:Bu n d=true) (hb:Ec P f=true) (ay:evs L args.toList=some vs)
  (az:∀v E' seg',Le E E'->R v E' seg'->Au E' H (S++ [seg'])->AZ J Q b n ds ops k cs m (AD bks) fuel (Bm listed i) (AB L d v) (Ak E' H (S++ [seg']))):
  Take J Q b n ds ops k cs m (AD bks) fuel listed L (Ak E H S) i:=by
 have a0:=EW.LG (aq (Bq S.flatten H) trivial) (by rintro v s' ⟨E',B',_,_,_,rfl⟩;rfl);refine⟨_,av,by simp [Ey],aw,hw,λρ ac=>?_⟩;have a1:args.map ρ=vs.toArray:=by
  rw [← Gf ac ay];apply Array.ext';simp
 have a2:ρ (.func f)= .func (.func f) #[] #[]:=ac _ _ V;simp only [execOp,resolve,bind,Sem.bind,Deferred.ofValue,a2,pure,invoke];have e: #[]++args.map ρ++ #[]=vs.toArray:=by rw [a1];simp
 rw [e];refine JN hb ?_;rw [L3];refine⟨_,a0,?_⟩;rintro v bb ⟨⟨E',B',hle,a3,a4,rfl⟩,w,a5⟩;have e2:mk E' (Bq S.flatten H) B'=mk E' H (B'++S.flatten):=by unfold mk;rw [F0]
 have a6:Nd E' H S.flatten:=Nd.grow Z λx O=>by
  have a7:=a5.d x O;have U:Bq B' (Bq S.flatten H) x=none:=a7;exact(H7 U).1
 have ag:Nd E' H (B'++S.flatten):=Nd.glue a4 a6;have al:(B'++S.flatten).Perm (S++ [B']).flatten:=by rw [Hc];exact List.perm_append_comm
 have am:Au E' H (S++ [B']):=Nd.perm ag al;rw [e2,Fs ag al];refine⟨V,λx o O=>?_,az v E' B' hle a3 am⟩;by_cases hd:AD bks x=true
 .obtain⟨j,o',Y⟩:=ap.mem x (by simpa [AD] using hd);have U:(Ak E H S).get x=some o':=DO (i:=0) Z Y V;have a8:j<S.length:=(List.getElem?_eq_some_iff.1 Y).1;have a9:(Ak E' H (S++ [B'])).get x=some o':=DO (i:=0) am (by rw [List.getElem?_append_left a8];exact Y) rfl;have K:(if AD bks x then(Ak E H S).get x else E x)=some o:=O
  show(if AD bks x then(Ak E' H (S++ [B'])).get x else E' x)=some o
  rw [if_pos hd] at K ⊢;rw [a9,← U];exact K
 .have K:(if AD bks x then(Ak E H S).get x else E x)=some o:=O
  show(if AD bks x then(Ak E' H (S++ [B'])).get x else E' x)=some o
  rw [if_neg hd] at K ⊢;exact hle _ _ K
theorem Take.Fj{m fuel:Nat}{listed:Array Bool}{f:FuncId}{args:Array Operand}{ats:Array TypeId}{vs:Lv_}{R:Value->LH->Seg->Prop}(O:Au E H S)(U:AT J f vs E [] R)
  (Y:ops[i]? =some ⟨d,.call ⟨.value (.func f),args,ats⟩,ty,p,af,g⟩) (hw:AY L ops ⟨d,.call ⟨.value (.func f),args,ats⟩,ty,p,af,g⟩=some true) (Z:Bu n d=true) (hb:Ec P f=true) (ac:evs L args.toList=some vs)
  (K:∀v E' seg',Le E E'->R v E' seg'->Au E' H (S++ [seg'])->AZ J Q b n ds ops k cs m DR fuel (Bm listed i) (AB L d v) (Ak E' H (S++ [seg']))):
  Take J Q b n ds ops k cs m DR fuel listed L (Ak E H S) i:=by
 have e:AD []=DR:=by funext x;rfl
 rw [← e] at K ⊢;exact Take.jv (bks:= []) trivial O U Y hw Z hb ac K
end
open Go.ConcN (upd upd_ne upd_same)
def C3:Loc->Option Nat | .cell a=>some a.block | .obj r=>some r | _=>none
structure B8 (t:Trace) (w:World) (N:Nat) (S:Nat->St) (Sh:Nat->Prop):Prop where
 fits:∀i,i<N->Fits (S i) w
 hh:∀i j,i<N->j<N->i≠j->∀b,(S i).H b≠none->(S j).H b=none/\(S j).E b=none
 sh:∀i,i<N->∀b,Sh b->(S i).H b=none/\(S i).E b=none
 GI:∀b,Sh b->b<w.heap.size
 clean:∀said,¬Race said t
 low:∀op∈t,op.act.low w.heap.size
 kH:∀i,i<N->∀b,(S i).H b≠none->∀x a,touchAt t x=some a->C3 a.loc=some b->Knows t i x
 kE:∀i,i<N->∀b,(S i).E b≠none->∀x a,touchAt t x=some a->C3 a.loc=some b->a.write=true->Knows t i x
theorem QW{t:Trace}{x:Nat}{a:Touch}{b n:Nat}(Z:∀op∈t,op.act.low n)(h:touchAt t x=some a)(hb:C3 a.loc=some b):b<n:=by
 obtain⟨op,ac,K⟩:=touch_of h;have O:=Z op (mem_of_getElem? ac);cases U:op.act with
 | access e=>
  rw [U] at K O;simp only [MemAct.touch?,Option.some.injEq] at K;subst K;simp only [MemAct.low] at O;cases Y:e.loc with
  | cell ad=>rw [Y] at O hb;simp only [C3,Option.some.injEq] at hb;subst hb;exact O
  | obj r=>rw [Y] at O hb;simp only [C3,Option.some.injEq] at hb;subst hb;exact O
  | _=>rw [Y] at hb;simp [C3] at hb
 | mark m=>
  rw [U] at K O;cases m <;> simp only [MemAct.touch?] at K <;> first
   | (simp at K;done)
   | (simp only [Option.some.injEq] at K;subst K;simp only [C3,Option.some.injEq] at hb;subst hb;exact O)
 | _=>rw [U] at K;simp [MemAct.touch?] at K
theorem Ma{s:St}{w w':World}{e:Event}{a:Touch}{b:Nat}(h:Ev s w w' e)(K:(MemAct.ofEvent e).touch? =some a)(hb:C3 a.loc=some b):
  He s w w' b a.write:=by
 obtain⟨loc,wr,Y⟩:=e;cases loc with
 | cell ad=>
  obtain⟨O,U⟩:=h;simp only at O;subst O;simp only [MemAct.ofEvent,MemAct.touch?,Option.some.injEq] at K;subst K;simp only [C3,Option.some.injEq] at hb;subst hb;exact U
 | obj r=>
  obtain⟨O,U⟩:=h;simp only at O;subst O;simp only [MemAct.ofEvent,MemAct.touch?,Option.some.injEq] at K;subst K;simp only [C3,Option.some.injEq] at hb;subst hb;exact U
 | mark m=>
  cases m <;> simp only [Ev] at h <;> first | exact h.elim | simp [MemAct.ofEvent,MemAct.touch?] at K
 | _=>exact h.elim
theorem gn{s:St}{w w':World}{e:Event}(h:Ev s w w' e):(MemAct.ofEvent e).low w'.heap.size:=by
 obtain⟨loc,wr,U⟩:=e;cases loc with
 | cell ad=>obtain⟨K,O⟩:=h;simp only at K;subst K;exact O.1
 | obj r=>obtain⟨K,O⟩:=h;simp only at K;subst K;cases wr <;> exact O.1
 | mark m=>cases m <;> simp only [Ev] at h <;> first | exact h.elim | exact trivial
 | _=>exact h.elim
theorem XG{l:Loc}(h:l.isMemory=true):∃b,C3 l=some b:=by
 cases l <;> simp [Loc.isMemory] at h <;> exact⟨_,rfl⟩
theorem B8.own{t:Trace}{w w':World}{N:Nat}{S:Nat->St}{Sh:Nat->Prop}(h:B8 t w N S Sh){i:Nat}(hi:i<N){s':St}{fn:FuncId}{pos:String}{es:Array Event}
  (bb:Fits s' w') (Y:Fr (S i) w s' w') (ay:∀e∈es,Ev (S i) w w' e):B8 (t++MemOp.ofEvents i fn pos es) w' N (upd S i s') Sh:=by
 have a5:∀j,j<N->j≠i->∀b o,((S j).H b=some o∨(S j).E b=some o)->w'.heap[b]? =some o/\(S i).H b=none:=by
  intro j U Z b o K;have hw:w.heap[b]? =some o:=K.elim ((h.fits j U).h b o) ((h.fits j U).e b o);have al:b<w.heap.size:=by
   rcases Nat.lt_or_ge b w.heap.size with a1 | a1
   .exact a1
   .simp [Array.getElem?_eq_none a1] at hw
  have a6:(S i).H b=none:=by
   cases be:(S i).H b with
   | none=>rfl
   | some u=>
    have:=h.hh i j hi U (Ne.symm Z) b (by rw [be];simp);rcases K with K | K
    .rw [this.1] at K;cases K
    .rw [this.2] at K;cases K
  exact⟨by rw [Y.keep b al a6,hw],a6⟩
 have az:∀j,j<N->∀b,w.heap.size<=b->(S j).H b=none/\(S j).E b=none:=by
  intro j U b hb;constructor
  .cases O:(S j).H b with
   | none=>rfl
   | some o=>have:=(h.fits j U).h b o O;simp [Array.getElem?_eq_none hb] at this
  .cases O:(S j).E b with
   | none=>rfl
   | some o=>have:=(h.fits j U).e b o O;simp [Array.getElem?_eq_none hb] at this
 have am:∀op∈MemOp.ofEvents i fn pos es,op.g=i/\∃e∈es,op.act=MemAct.ofEvent e:=by
  intro op am;obtain⟨e,he,rfl⟩:=mem_ofEvents am;exact⟨V,e,he,V⟩
 have hold:∀x a,touchAt t x=some a->touchAt (t++MemOp.ofEvents i fn pos es) x=some a:=by
  intro x a O;obtain⟨op,K,_⟩:=touch_of O;rw [touchAt_old (lt_size_of_getElem? K)];exact O
 have a0:∀x a,touchAt (t++MemOp.ofEvents i fn pos es) x=some a->touchAt t x=some a∨(Knows (t++MemOp.ofEvents i fn pos es) i x/\∃e∈es,(MemAct.ofEvent e).touch? =some a):=by
  intro x a O;obtain⟨op,K,a7⟩:=touch_of O;rcases getElem?_append_cases K with⟨al,bi⟩ | ⟨_,bn⟩
  .left;rw [touchAt_of bi];exact a7
  .right;obtain⟨bo,e,he,aq⟩:=am op bn;exact⟨by have:=knows_own K;rwa [bo] at this,e,he,by rw [← aq];exact a7⟩
 have bv:∀j,j<N->j≠i->∀b,s'.H b≠none->(S j).H b=none/\(S j).E b=none:=by
  intro j U Z b hb;rcases Y.own b hb with O | O
  .exact h.hh i j hi U (Ne.symm Z) b O
  .exact az j U b O
 have bw:∀j,j<N->j≠i->∀b,(S j).H b≠none->s'.H b=none/\s'.E b=none:=by
  intro j U Z b hb;have ac:=h.hh j i U hi Z b hb;have al:¬w.heap.size<=b:=λO=>hb (az j U b O).1;constructor
  .cases O:s'.H b with
   | none=>rfl
   | some o=>
    rcases Y.own b (by rw [O];simp) with y | y
    .exact absurd ac.1 y
    .exact absurd y al
  .cases O:s'.E b with
   | none=>rfl
   | some o=>
    rcases Y.Fc b (by rw [O];simp) with y | y | y
    .exact absurd ac.2 y
    .exact absurd ac.1 y
    .exact absurd y al
 constructor
 .intro j U;by_cases e:j=i
  .subst e;rw [upd_same];exact bb
  .rw [upd_ne _ _ e];exact⟨λb o K=>(a5 j U e b o (.inr K)).1,λb o K=>(a5 j U e b o (.inl K)).1,(h.fits j U).d⟩
 .intro a c a8 av Z b hb;by_cases e:a=i
  .subst e;rw [upd_same] at hb;rw [upd_ne _ _ (Ne.symm Z)];exact bv c av (Ne.symm Z) b hb
  .rw [upd_ne _ _ e] at hb;by_cases a9:c=i
   .subst a9;rw [upd_same];exact bw a a8 Z b hb
   .rw [upd_ne _ _ a9];exact h.hh a c a8 av Z b hb
 .intro j U b hb;by_cases e:j=i
  .subst e;rw [upd_same];have ac:=h.sh j U b hb;have al:=h.GI b hb;constructor
   .cases O:s'.H b with
    | none=>rfl
    | some o=>
     rcases Y.own b (by rw [O];simp) with y | y
     .exact absurd ac.1 y
     .omega
   .cases O:s'.E b with
    | none=>rfl
    | some o=>
     rcases Y.Fc b (by rw [O];simp) with y | y | y
     .exact absurd ac.2 y
     .exact absurd ac.1 y
     .omega
  .rw [upd_ne _ _ e];exact h.sh j U b hb
 .exact λb hb=>Nat.lt_of_lt_of_le (h.GI b hb) Y.size
 .intro said;refine noRace_append (g:=i) (h.clean said) (λop K=>(am op K).1) λx a O op K c av bx=>?_;obtain⟨_,e,he,aq⟩:=am op K;rw [aq] at av;obtain⟨bz,hm,ap,_⟩:=bx;obtain⟨b,hb⟩:=XG hm;have b0:C3 c.loc=some b:=by rw [← bz];exact hb
  have aw:=Ma (ay e he) av b0;rcases aw.2 with y | y | ⟨y,a2⟩
  .exact h.kH i hi b y x a O hb
  .have:=QW h.low O hb;omega
  .rcases ap with z | z
   .exact h.kE i hi b y x a O hb z
   .rw [a2] at z;cases z
 .intro op K;rcases Array.mem_append.1 K with K | K
  .exact MemAct.low_mono Y.size (h.low op K)
  .obtain⟨_,e,he,aq⟩:=am op K;rw [aq];exact gn (ay e he)
 .intro j U b hb x a O ag;by_cases e:j=i
  .subst e;rw [upd_same] at hb;rcases a0 x a O with K | ⟨a3,_⟩
   .rcases Y.own b hb with y | y
    .exact(h.kH j U b y x a K ag).app _
    .have:=QW h.low K ag;omega
   .exact a3
  .rw [upd_ne _ _ e] at hb;rcases a0 x a O with K | ⟨_,ev,he,a4⟩
   .exact(h.kH j U b hb x a K ag).app _
   .have aw:=Ma (ay ev he) a4 ag;have ac:=h.hh j i U hi e b hb;rcases aw.2 with y | y | ⟨y,_⟩
    .exact absurd ac.1 y
    .exact absurd (az j U b y).1 hb
    .exact absurd ac.2 y
 .intro j U b hb x a O ag ap;by_cases e:j=i
  .subst e;rw [upd_same] at hb;rcases a0 x a O with K | ⟨a3,_⟩
   .rcases Y.Fc b hb with y | y | y
    .exact(h.kE j U b y x a K ag ap).app _
    .exact(h.kH j U b y x a K ag).app _
    .have:=QW h.low K ag;omega
   .exact a3
  .rw [upd_ne _ _ e] at hb;rcases a0 x a O with K | ⟨_,ev,he,a4⟩
   .exact(h.kE j U b hb x a K ag ap).app _
   .have aw:=Ma (ay ev he) a4 ag;rcases aw.2 with y | y | ⟨_,a2⟩
    .exact absurd ((h.hh i j hi U (Ne.symm e) b y).2) hb
    .exact absurd (az j U b y).2 hb
    .rw [a2] at ap;cases ap
theorem B8.mute{t u:Trace}{w w':World}{N:Nat}{S:Nat->St}{Sh:Nat->Prop}(h:B8 t w N S Sh){g:Nat}(hu:∀op∈u,op.g=g)(Z:∀op∈u,op.act.touch? =none)(al:∀op∈u,op.act.low w'.heap.size)(hw:w'.heap=w.heap):B8 (t++u) w' N S Sh:=by
 have ac:∀x a,touchAt (t++u) x=some a->touchAt t x=some a:=by
  intro x a O;obtain⟨op,K,U⟩:=touch_of O;rcases getElem?_append_cases K with⟨av,am⟩ | ⟨_,ap⟩
  .rw [touchAt_of am];exact U
  .rw [Z op ap] at U;cases U
 exact⟨λi hi=>⟨λb o K=>by rw [hw];exact(h.fits i hi).e b o K,λb o K=>by rw [hw];exact(h.fits i hi).h b o K,(h.fits i hi).d⟩,h.hh,h.sh,λb hb=>by rw [hw];exact h.GI b hb,
  λsaid=>noRace_append (g:=g) (h.clean said) hu (λx a _ op K c ag _=>by rw [Z op K] at ag;cases ag),
  λop K=>(Array.mem_append.1 K).elim (λK=>by rw [hw];exact h.low op K) (al op),
  λi hi b hb x a O Y=>(h.kH i hi b hb x a (ac x a O) Y).app _,λi hi b hb x a O Y aq=>(h.kE i hi b hb x a (ac x a O) Y aq).app _⟩
theorem B8.ghost{t:Trace}{w:World}{N:Nat}{S:Nat->St}{Sh:Nat->Prop}(h:B8 t w N S Sh){i:Nat}(hi:i<N){s₀:St}(al:Cs (S i) s₀):B8 t w N (upd S i s₀) Sh:=by
 have Z:∀b,s₀.H b≠none->(S i).H b≠none:=λb hb=>by obtain⟨o,am⟩:=IH hb;rw [al.own b o am];simp
 have ap:∀b,s₀.E b≠none->(S i).E b≠none∨(S i).H b≠none:=λb hb=>by
  obtain⟨o,am⟩:=IH hb;rcases al.Fc b o am with x | x
  .exact .inl (by rw [x];simp)
  .exact .inr (by rw [x.1];simp)
 have ac:∀{x:Option Obj},¬x≠none->x=none:=λh=>Classical.not_not.1 h;constructor
 .intro j K;by_cases e:j=i
  .subst e;rw [upd_same];exact al.fits (h.fits j K)
  .rw [upd_ne _ _ e];exact h.fits j K
 .intro a c aq av ag b hb;by_cases e:a=i
  .subst e;rw [upd_same] at hb;rw [upd_ne _ _ (Ne.symm ag)];exact h.hh a c aq av ag b (Z b hb)
  .rw [upd_ne _ _ e] at hb;by_cases aw:c=i
   .subst aw;rw [upd_same];have O:=h.hh a c aq av ag b hb;exact⟨ac λx=>Z b x O.1,ac λx=>(ap b x).elim (λy=>y O.2) λy=>y O.1⟩
   .rw [upd_ne _ _ aw];exact h.hh a c aq av ag b hb
 .intro j K b hb;by_cases e:j=i
  .subst e;rw [upd_same];have O:=h.sh j K b hb;exact⟨ac λx=>Z b x O.1,ac λx=>(ap b x).elim (λy=>y O.2) λy=>y O.1⟩
  .rw [upd_ne _ _ e];exact h.sh j K b hb
 .exact h.GI
 .exact h.clean
 .exact h.low
 .intro j K b hb x a U Y;by_cases e:j=i
  .subst e;rw [upd_same] at hb;exact h.kH j K b (Z b hb) x a U Y
  .rw [upd_ne _ _ e] at hb;exact h.kH j K b hb x a U Y
 .intro j K b hb x a U Y ay;by_cases e:j=i
  .subst e;rw [upd_same] at hb;rcases ap b hb with y | y
   .exact h.kE j K b y x a U Y ay
   .exact h.kH j K b y x a U Y
  .rw [upd_ne _ _ e] at hb;exact h.kE j K b hb x a U Y ay
open Go.ConcN (sumTo sumTo_upd)
abbrev St.none:St:=St.quiet
def GL(o o':Os):Prop:=∃d:Nat,o'={o with wall:=o.wall+d,mono:=o.mono+d}
theorem GL.refl(o:Os):GL o o:=⟨0,V⟩
theorem GL.of{o o':Os}(h:o'=o):GL o o':=h▸ .refl o
theorem GL.trans{a b c:Os}(h:GL a b)(k:GL b c):GL a c:=by
 obtain⟨d,rfl⟩:=h;obtain⟨e,rfl⟩:=k;exact⟨d+e,by simp [Nat.add_assoc]⟩
def lone(s:St):Nat->St:=λi=>if i=0 then s else St.none
structure HT (P:Program) (gs:Array Goroutine) (w:World) (t:Trace) (q:Nat->Nat) (Sh:Nat->Prop) (g:Goroutine) (s:St):Prop where
 main:gs[0]? =some g
 lv:Leavers P t gs q
 Cm:B8 t w gs.size (lone s) Sh
 over:t.HandedOver
 hears:Deaf t 0=0
def Reaches(P:Program)(gs:Array Goroutine)(w:World)(sl:Option (Nat×Nat))(t:Trace)(s:St)(K:Gs_):Prop:=
 ∃(n:Nat) (gs':Array Goroutine) (w':World) (U:Option (Nat×Nat)) (O:Trace) (q':Nat->Nat) (Y:Nat->Prop) (g':Goroutine) (s':St),
  runNT P n (crowd gs w sl) t=(.next (crowd gs' w' U),O)/\HT P gs' w' O q' Y g' s'/\K g' s'/\Le' s s'/\w'.tape=w.tape/\GL w.os w'.os/\w'.output=w.output
 where
  Le' (s s' : St) : Prop := ∀ b o, s.E b = some o -> s'.E b = some o
theorem UL{s s':St}:upd (lone s) 0 s'=lone s':=by
 funext i;unfold upd lone;split <;> rfl
theorem Oh{P:Program}{m m':Machine}{t ops:Trace}{k:Nat}{r:Stepped×Trace}(h:stepT P m=(.next m',ops))(K:runNT P k m' (t++ops)=r):runNT P (k+1) m t=r:=by
 simp only [runNT,h];exact K
theorem HT.at_{P:Program}{gs:Array Goroutine}{w:World}{t:Trace}{q:Nat->Nat}{Sh:Nat->Prop}{g:Goroutine}{s:St}(h:HT P gs w t q Sh g s)(d:Nat):HT P gs (w.at d) t q Sh g s:=
 ⟨h.main,h.lv,by
  have:=h.Cm.mute (u:= #[]) (w':=w.at d) (g:=0) (by simp) (by simp) (by simp) rfl
  simpa using this,h.over,h.hears⟩
theorem YJ{P:Program}{g:Goroutine}{s:St}{K:Gs_}(a8:We P true g s K):
  ∀(M:Nat) (gs:Array Goroutine) (w:World) (sl:Option (Nat×Nat)) (t:Trace) (q:Nat->Nat) (Sh:Nat->Prop),sumTo gs.size q<=M->HT P gs w t q Sh g s->Reaches P gs w sl t s K:=by
 intro M
 induction M with
 | zero=>?_
 | succ M bn=>?_
 all_goals
  intro gs w sl t q Sh ce hC;have aw:=a8.1;have bo:∀x∈gs,awake x:=by
   intro x al;obtain⟨i,hi,rfl⟩:=Array.mem_iff_getElem.1 al;rcases Nat.eq_zero_or_pos i with rfl | ay
   .have:gs[0]=g:=by simpa [Array.getElem?_eq_getElem hi] using hC.main
    rw [this];exact awake_of (.inl aw)
   .exact awake_of ((hC.lv.old i _ ay (Array.getElem?_eq_getElem hi)).status.elim .inl λx=> .inr (.inr x))
  obtain⟨i,x,d,am,hi,al,a9⟩:=crowd_pick (P:=P) (w:=w) (sl:=sl) bo ⟨0,g,hC.main,aw⟩;have az:=hC.at_ d;have a0:0<gs.size:=(Array.getElem?_eq_some_iff.1 hC.main).1;rcases Nat.eq_zero_or_pos i with rfl | ay
  .obtain rfl:x=g:=by rw [hC.main] at hi;exact(Option.some.inj hi).symm
   have bv:Fits s (w.at d):=az.Cm.fits 0 a0;obtain⟨g',s',w',es,a1,a2,a3,Z,ap⟩:=a8.2.1 (w.at d) bv;have a4:=runT_crowd_go (P:=P) (sl:=am) (i:=0) hi (show stepG P (0==0) x (w.at d)=_ from a1);have aq:((gs.map (woken P x g' w')).setIfInBounds 0 g').size=gs.size:=by simp
   have Y:∀op∈MemOp.ofEvents 0 x.frame.fn x.frame.place es,op.g=0:=λop O=>by obtain⟨e,_,rfl⟩:=mem_ofEvents O;rfl
   have bw:deafBehind (Deaf t 0) es=Deaf t 0:=deafBehind_still (λe he=>by
    have:=ap e he
    unfold Ev at this
    constructor <;> intro bx <;> rw [bx] at this <;> exact this) _
   refine⟨1,_,w',am,t++MemOp.ofEvents 0 x.frame.fn x.frame.place es,q,Sh,g',s',Oh (a9.trans a4) V,⟨by simp [a0],⟨λj y U ac=>?_,λj U=>?_⟩,?_,?_,?_⟩,a2,Z.ext,Z.tape,.of Z.os,Z.output⟩
   .have a5:0≠j:=by omega
    rw [Array.getElem?_setIfInBounds_ne a5,Array.getElem?_map] at ac;obtain⟨z,a6,rfl⟩:=Option.map_eq_some_iff.1 ac;have ag:=hC.lv.old j z U a6;rw [woken_quitsD ag,Deaf_other t (by omega) _ Y];exact ag
   .rw [Deaf_other t (g':=0) (by simp at U;omega) _ Y];exact hC.lv.above j (by simpa using U)
   .rw [aq,← UL (s:=s)];exact az.Cm.own a0 a3 (by simpa [lone] using Z) (by simpa [lone] using ap)
   .exact handedOver_app hC.over λop O=> .inl (Y op O)
   .rw [Deaf_own,bw];exact hC.hears
  ·
   have ag:=hC.lv.old i x ay hi;have bz:(i==0)=false:=by simp;omega
   have bb:i<gs.size:=(Array.getElem?_eq_some_iff.1 hi).1;cases a7:q i with
   | zero=>rw [a7] at ag;rw [ag.1] at al;cases al
   | succ k=>
    rw [a7] at ag;rcases ag with⟨b0,_⟩ | ⟨_,x',es,hm,b1,b2⟩
    .rw [b0] at al;cases al
    have ci:sumTo gs.size (upd q i k)+(k+1)=sumTo gs.size q+k:=by
     have:=sumTo_upd q k id bb;simpa [a7] using this
    first
     | (exfalso;omega)
     | (
      have a4:=runT_crowd_go (P:=P) (sl:=am) (i:=i) hi (by rw [bz];exact b1 (w.at d))
      have aq:((gs.map (woken P x x' (w.at d))).setIfInBounds i x').size=gs.size:=by simp
      have Y:∀op∈MemOp.ofEvents i x.frame.fn x.frame.place es,op.g=i:=λop O=>by obtain⟨e,_,rfl⟩:=mem_ofEvents O;rfl
      have be:∀op∈MemOp.ofEvents i x.frame.fn x.frame.place es,op.act.touch? =none:=λop O=>by obtain⟨e,he,rfl⟩:=mem_ofEvents O;exact touch_mute (hm e he)
      have b3:HT P ((gs.map (woken P x x' (w.at d))).setIfInBounds i x') (w.at d) (t++MemOp.ofEvents i x.frame.fn x.frame.place es) (upd q i k) Sh g s:=by
       refine⟨?_,⟨λj y U ac=>?_,λj U=>?_⟩,?_,?_,?_⟩
       .have a5:i≠0:=by omega
        rw [Array.getElem?_setIfInBounds_ne a5,Array.getElem?_map,hC.main]
        simp [woken_run aw]
       .by_cases av:i=j
        .subst av
         rw [Array.getElem?_setIfInBounds_self_of_lt (by simpa using bb)] at ac
         obtain rfl:=Option.some.inj ac
         rw [upd_same,Deaf_own]
         exact b2
        .rw [Array.getElem?_setIfInBounds_ne av,Array.getElem?_map] at ac
         obtain⟨z,a6,rfl⟩:=Option.map_eq_some_iff.1 ac
         have bi:=hC.lv.old j z U a6
         rw [woken_quitsD bi,upd_ne q k (Ne.symm av),Deaf_other t av _ Y]
         exact bi
       .rw [Deaf_other t (g':=i) (by simp at U;omega) _ Y]
        exact hC.lv.above j (by simpa using U)
       .rw [aq]
        exact az.Cm.mute Y be (λop O=>by obtain⟨e,he,rfl⟩:=mem_ofEvents O;exact low_mute (hm e he) _) V
       .exact handedOver_app hC.over λop O=> .inr (be op O)
       .rw [Deaf_other t (by omega) _ Y];exact hC.hears
      obtain⟨n,gs',w',b4,b5,q',b6,g',s',a1,a2,a3,Z,ap,ca,cc⟩:=bn _ (w.at d) am _ _ Sh (by rw [aq];omega) b3
      exact⟨n+1,gs',w',b4,b5,q',b6,g',s',Oh (a9.trans a4) a1,a2,a3,Z,ap,ca,cc⟩)
def GY(P:Program):Judge P where
 main:=true
 ok Q g s:=∀gs w sl t q Sh,HT P gs w t q Sh g s->Reaches P gs w sl t s Q
 stop {Q g s} h:=λgs w sl t q Sh hC=>⟨0,gs,w,sl,t,q,Sh,g,s,rfl,hC,h,λ_ _ h=>h,rfl,.refl _,rfl⟩
 step {Q g s} h:=λgs w sl t q Sh hC=>by
  obtain⟨n,gs',w',K,O,q',U,g',s',Y,Z,ac,ag,al,am,ap⟩:=YJ h _ gs w sl t q Sh (Nat.le_refl _) hC
  obtain⟨aq,av,aw,ay,az,a0,a1,a2,a3,k1,a4,a5,a6,a7,a8,a9⟩:=ac gs' w' K O q' U Z
  refine⟨n+aq,av,aw,ay,az,a0,a1,a2,a3,?_,a4,a5,λb o h=>a6 b o (ag b o h),a7.trans al,am.trans a8,a9.trans ap⟩
  rw [runNT_add,Y];exact k1
 trans {Q R g s} h k:=λgs w sl t q Sh hC=>by
  obtain⟨n,gs',w',K,O,q',U,g',s',Y,Z,ac,ag,al,am,ap⟩:=h gs w sl t q Sh hC
  obtain⟨aq,av,aw,ay,az,a0,a1,a2,a3,k1,a4,a5,a6,a7,a8,a9⟩:=k g' s' ac gs' w' K O q' U Z
  refine⟨n+aq,av,aw,ay,az,a0,a1,a2,a3,?_,a4,a5,λb o h=>a6 b o (ag b o h),a7.trans al,am.trans a8,a9.trans ap⟩
  rw [runNT_add,Y];exact k1
 ghost {Q g s s₀} bb h:=λgs w sl t q Sh hC=>by
  have be:0<gs.size:=(Array.getElem?_eq_some_iff.1 hC.main).1
  have bi:HT P gs w t q Sh g s₀:=⟨hC.main,hC.lv,by
   rw [← UL (s:=s)];exact hC.Cm.ghost be (by simpa [lone] using bb),hC.over,hC.hears⟩
  obtain⟨n,gs',w',K,O,q',U,g',s',Y,Z,ac,ag,al,am,ap⟩:=h gs w sl t q Sh bi
  exact⟨n,gs',w',K,O,q',U,g',s',Y,Z,ac,λb o h=>ag b o (bb.ext b o h),al,am,ap⟩
end Pal
namespace Pal
open Go Go.Conc
open Go.ConcN (upd upd_same upd_ne)
section
variable {t u:Trace}{w w':World}{N:Nat}{S:Nat->St}{Sh:Nat->Prop}
theorem B8.ext(h:B8 t w N S Sh)(ag:∀said,¬Race said (t++u))(hu:∀op∈u,∀a,op.act.touch? =some a->∀b,C3 a.loc=some b->Sh b)
  (al:∀op∈u,op.act.low w.heap.size) (Z:w'.heap.size=w.heap.size) (hw:∀b,¬Sh b->w'.heap[b]? =w.heap[b]?):B8 (t++u) w' N S Sh:=by
 have hold:∀x a b,touchAt (t++u) x=some a->C3 a.loc=some b->¬Sh b->touchAt t x=some a:=by
  intro x a b U hb O;obtain⟨op,K,ac⟩:=touch_of U;rcases getElem?_append_cases K with⟨aw,am⟩ | ⟨_,ap⟩
  .rw [touchAt_of am];exact ac
  .exact absurd (hu op ap a ac b hb) O
 have O:∀i,i<N->∀b,((S i).H b≠none∨(S i).E b≠none)->¬Sh b:=by
  intro i hi b hb aq;have:=h.sh i hi b aq;exact hb.elim (λx=>x this.1) (λx=>x this.2)
 refine⟨λi hi=>⟨λb o K=>?_,λb o K=>?_,(h.fits i hi).d⟩,h.hh,h.sh,λb hb=>by rw [Z];exact h.GI b hb,ag,λop K=>?_,λi hi b hb x a U Y=>?_,λi hi b hb x a U Y av=>?_⟩
 .rw [hw b (O i hi b (.inr (by rw [K];simp)))];exact(h.fits i hi).e b o K
 .rw [hw b (O i hi b (.inl (by rw [K];simp)))];exact(h.fits i hi).h b o K
 .rcases Array.mem_append.1 K with K | K
  .rw [Z];exact h.low op K
  .rw [Z];exact al op K
 .exact(h.kH i hi b hb x a (hold x a b U Y (O i hi b (.inl hb))) Y).app _
 .exact(h.kE i hi b hb x a (hold x a b U Y (O i hi b (.inr hb))) Y av).app _
theorem B8.congr{S':Nat->St}(h:B8 t w N S Sh)(K:∀i,i<N->(S' i).E=(S i).E/\(S' i).H=(S i).H):B8 t w N S' Sh:=by
 refine⟨λi hi=>⟨by rw [(K i hi).1];exact(h.fits i hi).e,by rw [(K i hi).2];exact(h.fits i hi).h,by rw [(K i hi).1,(K i hi).2];exact(h.fits i hi).d⟩,λi j hi O U b=>?_,λi hi b=>?_,h.GI,h.clean,h.low,λi hi b=>?_,λi hi b=>?_⟩
 .rw [(K i hi).2,(K j O).1,(K j O).2];exact h.hh i j hi O U b
 .rw [(K i hi).1,(K i hi).2];exact h.sh i hi b
 .rw [(K i hi).2];exact h.kH i hi b
 .rw [(K i hi).1];exact h.kE i hi b
theorem B8.less(h:B8 t w N S Sh){i:Nat}{s':St}(al:∀b o,s'.E b=some o->(S i).E b=some o)(am:∀b o,s'.H b=some o->(S i).H b=some o):B8 t w N (upd S i s') Sh:=by
 have Y:∀j b o,(upd S i s' j).E b=some o->(S j).E b=some o:=by
  intro j b o K;by_cases e:j=i
  .subst e;rw [upd_same] at K;exact al b o K
  .rwa [upd_ne _ _ e] at K
 have e2:∀j b o,(upd S i s' j).H b=some o->(S j).H b=some o:=by
  intro j b o K;by_cases e:j=i
  .subst e;rw [upd_same] at K;exact am b o K
  .rwa [upd_ne _ _ e] at K
 have n1:∀j b,(S j).E b=none->(upd S i s' j).E b=none:=by
  intro j b hb;cases U:(upd S i s' j).E b with
  | none=>rfl
  | some o=>rw [Y j b o U] at hb;cases hb
 have n2:∀j b,(S j).H b=none->(upd S i s' j).H b=none:=by
  intro j b hb;cases U:(upd S i s' j).H b with
  | none=>rfl
  | some o=>rw [e2 j b o U] at hb;cases hb
 have p1:∀j b,(upd S i s' j).E b≠none->(S j).E b≠none:=λj b hb x=>hb (n1 j b x);have p2:∀j b,(upd S i s' j).H b≠none->(S j).H b≠none:=λj b hb x=>hb (n2 j b x);exact⟨λj O=>⟨λb o K=>(h.fits j O).e b o (Y j b o K),λb o K=>(h.fits j O).h b o (e2 j b o K),λb hb=>n2 j b ((h.fits j O).d b (p1 j b hb))⟩,
  λa c Z ac ag b hb=>⟨n2 c b (h.hh a c Z ac ag b (p2 a b hb)).1,n1 c b (h.hh a c Z ac ag b (p2 a b hb)).2⟩,
  λj O b hb=>⟨n2 j b (h.sh j O b hb).1,n1 j b (h.sh j O b hb).2⟩,h.GI,h.clean,h.low,
  λj O b hb=>h.kH j O b (p2 j b hb),λj O b hb=>h.kE j O b (p1 j b hb)⟩
theorem B8.push(h:B8 t w N S Sh){i:Nat}(hi:i<N){E:LH}(ac:∀b o,E b=some o->(S i).E b=some o)
  (am:∀b,E b≠none->∀x a,touchAt t x=some a->C3 a.loc=some b->a.write=true->Knows t N x):B8 t w (N+1) (upd S N ⟨E,λ_=>none,false⟩) Sh:=by
 have O:∀j,j<N->upd S N ⟨E,λ_=>none,false⟩ j=S j:=λj K=>upd_ne _ _ (by omega);have aq:∀b,E b≠none->(S i).E b≠none:=λb hb=>by obtain⟨o,Y⟩:=IH hb;rw [ac b o Y];simp
 have al:∀b,(S i).E b=none->E b=none:=λb hb=>by
  cases ag:E b with
  | none=>rfl
  | some o=>rw [ac b o ag] at hb;cases hb
 have cs:∀j,j<N+1->j<N∨j=N:=λj K=>by omega
 constructor
 .intro j K;rcases cs j K with K | rfl
  .rw [O j K];exact h.fits j K
  .rw [upd_same];exact⟨λb o Y=>(h.fits i hi).e b o (ac b o Y),λb o Y=>(by cases Y),λb _=>V⟩
 .intro a c U Z ap b hb;rcases cs a U with U | rfl
  .rw [O a U] at hb;rcases cs c Z with Z | rfl
   .rw [O c Z];exact h.hh a c U Z ap b hb
   .rw [upd_same];refine⟨V,al b ?_⟩;by_cases e:a=i
    .subst e;cases ag:(S a).E b with
     | none=>rfl
     | some o=>exact absurd ((h.fits a U).d b (by rw [ag];simp)) hb
    .exact(h.hh a i U hi e b hb).2
  .rw [upd_same] at hb;exact absurd V hb
 .intro j K b hb;rcases cs j K with K | rfl
  .rw [O j K];exact h.sh j K b hb
  .rw [upd_same];exact⟨V,al b (h.sh i hi b hb).2⟩
 .exact h.GI
 .exact h.clean
 .exact h.low
 .intro j K b hb;rcases cs j K with K | rfl
  .rw [O j K] at hb;exact h.kH j K b hb
  .rw [upd_same] at hb;exact absurd V hb
 .intro j K b hb;rcases cs j K with K | rfl
  .rw [O j K] at hb;exact h.kE j K b hb
  .rw [upd_same] at hb;exact am b hb
theorem B8.share(h:B8 t w N S Sh){i:Nat}(hi:i<N){b₀:Nat}{o₀:Obj}(U:(S i).H b₀=some o₀):
  B8 t w N (upd S i {S i with H:=λb=>if b=b₀ then none else(S i).H b}) (λb=>Sh b∨b=b₀):=by
 have K:B8 t w N (upd S i {S i with H:=λb=>if b=b₀ then none else(S i).H b}) Sh:=
  h.less (λb o O=>O) (λb o O=>by simp only at O;split at O <;> first | (cases O;done) | exact O)
 have ac:b₀<w.heap.size:=by
  have:=(h.fits i hi).h b₀ o₀ U;rcases Nat.lt_or_ge b₀ w.heap.size with Y | Y
  .exact Y
  .simp [Array.getElem?_eq_none Y] at this
 refine⟨K.fits,K.hh,λj Z b hb=>?_,λb hb=>hb.elim (K.GI b) (λe=>e▸ac),K.clean,K.low,K.kH,K.kE⟩;rcases hb with hb | rfl
 .exact K.sh j Z b hb
 .by_cases e:j=i
  .subst e;rw [upd_same];refine⟨by simp,?_⟩;cases ag:(S j).E b with
   | none=>rfl
   | some o=>have:=(h.fits j Z).d b (by rw [ag];simp);rw [U] at this;cases this
  .rw [upd_ne _ _ e];exact h.hh i j hi Z (Ne.symm e) b (by rw [U];simp)
end
end Pal
