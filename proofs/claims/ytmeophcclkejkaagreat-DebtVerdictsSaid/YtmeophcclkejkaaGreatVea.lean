/- DebtVerdicts: a part (1 of 9) of the proof of its row. -/
import Derived.Conc.Own5
import Derived.Conc.Listed
import Derived.Conc.DeferLaws
import Derived.Orders
import Derived.Conc.Beside
set_option linter.all false
set_option maxRecDepth 100000
namespace Pal
open Go Go.Conc
theorem V{α:Sort _}{a:α}:a=a:=rfl
abbrev LH:=Nat->Option Obj
structure St where
 E:LH
 H:LH
 q:Bool
abbrev Ld_:=List Deferred
abbrev Ao_:=Array Oper
abbrev Li_:=List Item
abbrev Lf_:=List Frame
abbrev On_:=Option (Nat×Bool)
abbrev Ae_:=Array Edge
abbrev Gs_:=Goroutine->St->Prop
abbrev Lv_:=List Value
abbrev Av_:=Array Value
def St.get(s:St)(b:Nat):Option Obj:=match s.E b with | some o=>some o | none=>s.H b
structure Fits (s:St) (w:World):Prop where
 e:∀b o,s.E b=some o->w.heap[b]? =some o
 h:∀b o,s.H b=some o->w.heap[b]? =some o
 d:∀b,s.E b≠none->s.H b=none
theorem Fits.get{s:St}{w:World}(f:Fits s w){b:Nat}{o:Obj}(h:s.get b=some o):w.heap[b]? =some o:=by
 unfold St.get at h;split at h
 ·rename_i o' K;cases h;exact f.e _ _ K
 ·exact f.h _ _ h
theorem Fits.U4{s:St}{w:World}(f:Fits s w){b:Nat}{o:Obj}(h:s.H b=some o):b<w.heap.size:=by
 have:=f.h _ _ h;rcases Nat.lt_or_ge b w.heap.size with K | K
 ·exact K
 ·simp [Array.getElem?_eq_none K] at this
theorem Fits.lt{s:St}{w:World}(f:Fits s w){b:Nat}{o:Obj}(h:s.get b=some o):b<w.heap.size:=by
 have:=f.get h;rcases Nat.lt_or_ge b w.heap.size with K | K
 ·exact K
 ·simp [Array.getElem?_eq_none K] at this
def cellAt(o:Obj)(a:Addr):Option Value:=match o with | .cells c _ _=>if a.spot.isSome then none else c[a.off]? | _=>none
def frozenAt(o:Obj)(a:Addr):Bool:=match o with | .cells _ _ (lo,hi)=>lo<=a.off&&a.off<hi | _=>false
def shapeOf(o:Obj):Option (TypeId×Nat):=match o with | .cells c e _=>some (e,c.size) | _=>none
def Dv:Value->Bool | .agg _ | .tuple _=>false | _=>true
def KM(o:Obj)(a:Addr)(v:Value):Obj:=match o with | .cells c e f=> .cells (if a.spot.isSome then c else c.setIfInBounds a.off v) e f | o=>o
def JZ(o:Obj):Bool:=match o with | .cells ..=>false | .chan ..=>false | .pending ..=>false | .view ..=>false | .number ..=>false | _=>true
def St.cell? (s:St)(a:Addr):Option Value:=(s.get a.block).bind (cellAt · a)
def St.upd(s:St)(b:Nat)(o:Obj):St:={s with H:=λx=>if x=b then some o else s.H x}
theorem RJ{w:World}{a:Addr}{o:Obj}(h:w.heap[a.block]? =some o):w.cell? a=cellAt o a:=by
 unfold World.cell? cellAt;rw [h];cases o <;> rfl
theorem Rf{w:World}{a:Addr}{o:Obj}(h:w.heap[a.block]? =some o):w.frozen? a=frozenAt o a:=by
 unfold World.frozen? frozenAt;rw [h];cases o <;> rfl
theorem VH{w:World}{b:Nat}{o:Obj}(h:w.heap[b]? =some o):w.shape? b=shapeOf o:=by
 unfold World.shape? shapeOf;rw [h];cases o <;> rfl
def lp(P:Program){α:Type}:Sem α->St->(α->St->Prop)->(Halt->St->Prop)->Prop
 | .pure a,s,Q,_=>Q a s
 | .load m a k,s,Q,X=>m= .plain/\∃v,s.cell? a=some v/\lp P (k v) s Q X
 | .store m a v k,s,Q,X=>m= .plain/\Dv v=true/\∃o,s.H a.block=some o/\(cellAt o a).isSome=true/\frozenAt o a=false/\lp P k (s.upd a.block (KM o a v)) Q X
 | .new o k,s,Q,X=>s.q=false/\∀r,s.E r=none->s.H r=none->lp P (k r) (s.upd r o) Q X
 | .shape r k,s,Q,X=>∃o,s.get r=some o/\lp P (k (shapeOf o)) s Q X
 | .freeze _ _ _,_,_,_=>False
 | .frozen a k,s,Q,X=>∃o,s.get a.block=some o/\lp P (k (frozenAt o a)) s Q X
 | .getObj r k,s,Q,X=>∃o,s.get r=some o/\JZ o=true/\lp P (k o) s Q X
 | .setObj r o k,s,Q,X=>(∃o₀,s.H r=some o₀/\JZ o₀=true)/\JZ o=true/\lp P k (s.upd r o) Q X
 | .choose q k,s,Q,X=>if q.forced then lp P (k 0) s Q X else s.q=false/\∀t,lp P (k (q.cut t)) s Q X
 | .sys _ _,_,_,_=>False
 | .program k,s,Q,X=>lp P (k P) s Q X
 | .mark m k,s,Q,X=>((s.q=false/\m= .noRoom)∨∃f,m= .extern f)/\lp P k s Q X
 | .halt h,s,_,X=>X h s
theorem EH{P:Program}{α:Type}(x:Sem α):∀{s:St} {Q Y:α->St->Prop} {X Z:Halt->St->Prop},lp P x s Q X->(∀a s,Q a s->Y a s)->(∀h s,X h s->Z h s)->lp P x s Y Z:=by
 induction x with
 | pure a=>intro s Q Y X Z h K O;exact K _ _ h
 | load m a k U=>intro s Q Y X Z h K O;obtain⟨ac,v,ag,al⟩:=h;exact⟨ac,v,ag,U _ al K O⟩
 | store m a v k U=>intro s Q Y X Z h K O;obtain⟨ac,ag,o,al,ap,aq,av⟩:=h;exact⟨ac,ag,o,al,ap,aq,U av K O⟩
 | new o k U=>intro s Q Y X Z h K O;exact⟨h.1,λr ac ag=>U _ (h.2 r ac ag) K O⟩
 | shape r k U=>intro s Q Y X Z h K O;obtain⟨o,ac,ag⟩:=h;exact⟨o,ac,U _ ag K O⟩
 | freeze a n k U=>intro s Q Y X Z h K O;exact h
 | frozen a k U=>intro s Q Y X Z h K O;obtain⟨o,ac,ag⟩:=h;exact⟨o,ac,U _ ag K O⟩
 | getObj r k U=>intro s Q Y X Z h K O;obtain⟨o,ac,ag,al⟩:=h;exact⟨o,ac,ag,U _ al K O⟩
 | setObj r o k U=>intro s Q Y X Z h K O;obtain⟨ac,ag,al⟩:=h;exact⟨ac,ag,U al K O⟩
 | choose q k U=>
  intro s Q Y X Z h K O;simp only [lp] at h ⊢;split
  ·rename_i am;rw [if_pos am] at h;exact U _ h K O
  ·rename_i am;rw [if_neg am] at h;exact⟨h.1,λt=>U _ (h.2 t) K O⟩
 | sys c k U=>intro s Q Y X Z h K O;exact h
 | program k U=>intro s Q Y X Z h K O;exact U _ h K O
 | mark m k U=>intro s Q Y X Z h K O;exact⟨h.1,U h.2 K O⟩
 | halt h=>intro s Q Y X Z h K O;exact O _ _ h
theorem Az{P:Program}{α β:Type}(x:Sem α)(f:α->Sem β):∀{s:St} {Q:β->St->Prop} {X:Halt->St->Prop},lp P x s (λa s'=>lp P (f a) s' Q X) X->lp P (x>>=f) s Q X:=by
 show ∀{s:St} {Q:β->St->Prop} {X:Halt->St->Prop},lp P x s (λa s'=>lp P (f a) s' Q X) X->lp P (Sem.bind x f) s Q X
 induction x with
 | pure a=>intro s Q X h;exact h
 | load m a k K=>intro s Q X h;obtain⟨O,v,U,Y⟩:=h;exact⟨O,v,U,K _ Y⟩
 | store m a v k K=>intro s Q X h;obtain⟨O,U,o,Y,ac,ag,al⟩:=h;exact⟨O,U,o,Y,ac,ag,K al⟩
 | new o k K=>intro s Q X h;exact⟨h.1,λr O U=>K _ (h.2 r O U)⟩
 | shape r k K=>intro s Q X h;obtain⟨o,O,U⟩:=h;exact⟨o,O,K _ U⟩
 | freeze a n k K=>intro s Q X h;exact h
 | frozen a k K=>intro s Q X h;obtain⟨o,O,U⟩:=h;exact⟨o,O,K _ U⟩
 | getObj r k K=>intro s Q X h;obtain⟨o,O,U,Y⟩:=h;exact⟨o,O,U,K _ Y⟩
 | setObj r o k K=>intro s Q X h;obtain⟨O,U,Y⟩:=h;exact⟨O,U,K Y⟩
 | choose q k K=>
  intro s Q X h;simp only [lp,Sem.bind] at h ⊢;split
  ·rename_i Z;rw [if_pos Z] at h;exact K _ h
  ·rename_i Z;rw [if_neg Z] at h;exact⟨h.1,λt=>K _ (h.2 t)⟩
 | sys c k K=>intro s Q X h;exact h
 | program k K=>intro s Q X h;exact K _ h
 | mark m k K=>intro s Q X h;exact⟨h.1,K h.2⟩
 | halt h=>intro s Q X h;exact h
structure Fr (s:St) (w:World) (s':St) (w':World):Prop where
 size:w.heap.size<=w'.heap.size
 keep:∀b,b<w.heap.size->s.H b=none->w'.heap[b]? =w.heap[b]?
 own:∀b,s'.H b≠none->s.H b≠none∨w.heap.size<=b
 ext:∀b o,s.E b=some o->s'.E b=some o
 Fi:∀b,s'.E b≠none->s.E b≠none∨s.H b≠none∨w.heap.size<=b
 tape:w'.tape=w.tape
 os:w'.os=w.os
 output:w'.output=w.output
theorem Fr.refl(s:St)(w:World):Fr s w s w:=
 ⟨Nat.le_refl _,λ_ _ _=>V,λ_ h=> .inl h,λ_ _ h=>h,λ_ h=> .inl h,V,V,V⟩
theorem Fr.trans{s K O:St}{w U Y:World}(h:Fr s w K U)(k:Fr K U O Y):Fr s w O Y where
 size:=Nat.le_trans h.size k.size
 keep b hb Z:=by
  rw [k.keep b (Nat.lt_of_lt_of_le hb h.size) ?_,h.keep b hb Z];by_cases ac:K.H b=none
  ·exact ac
  ·rcases h.own b ac with x | x
   ·exact absurd Z x
   ·omega
 own b hb:=by
  rcases k.own b hb with x | x
  ·exact h.own b x
  ·exact .inr (Nat.le_trans h.size x)
 ext b o ag:=k.ext b o (h.ext b o ag)
 Fi b hb:=by
  rcases k.Fi b hb with x | x | x
  ·exact h.Fi b x
  ·rcases h.own b x with y | y
   ·exact .inr (.inl y)
   ·exact .inr (.inr y)
  ·exact .inr (.inr (Nat.le_trans h.size x))
 tape:=k.tape.trans h.tape
 os:=k.os.trans h.os
 output:=k.output.trans h.output
def Hb(s:St)(w w':World)(b:Nat)(write:Bool):Prop:=
 b<w'.heap.size/\(s.H b≠none∨w.heap.size<=b∨(s.E b≠none/\write=false))
def Ev(s:St)(w w':World)(e:Event):Prop:=
 match e.loc with
 | .cell a=>e.sync=false/\Hb s w w' a.block e.write
 | .obj r=>e.sync=false/\Hb s w w' r e.write
 | .mark (.extern _)=>True
 | .mark .noRoom=>True
 | _=>False
theorem Hb.M{s K:St}{w O w' U:World}{b:Nat}{wr:Bool}(h:Fr s w K O)(hs:w'.heap.size<=U.heap.size)(t:Hb K O w' b wr):Hb s w U b wr:=by
 refine⟨Nat.lt_of_lt_of_le t.1 hs,?_⟩;rcases t.2 with x | x | ⟨x,y⟩
 ·rcases h.own b x with z | z
  ·exact .inl z
  ·exact .inr (.inl z)
 ·exact .inr (.inl (Nat.le_trans h.size x))
 ·rcases h.Fi b x with z | z | z
  ·exact .inr (.inr ⟨z,y⟩)
  ·exact .inl z
  ·exact .inr (.inl z)
theorem Ev.M{s K:St}{w O w' U:World}{e:Event}(h:Fr s w K O)(hs:w'.heap.size<=U.heap.size)(t:Ev K O w' e):Ev s w U e:=by
 unfold Ev at t ⊢;split <;> rename_i he <;> simp only [he] at t
 ·exact⟨t.1,t.2.M h hs⟩
 ·exact⟨t.1,t.2.M h hs⟩
 ·trivial
 ·trivial
def KR{α:Type}:Result α->World | .ok _ w=>w | .halt _ w=>w
def aL{α:Type}(Q:α->St->Prop)(X:Halt->St->Prop)(s:St):Result α->Prop | .ok a _=>Q a s | .halt h _=>X h s
theorem SG{s:St}{b:Nat}{o:Obj}(h:s.get b=some o)(K:s.H b=none):s.E b≠none:=by
 intro e;unfold St.get at h;rw [e] at h;simp only at h;rw [K] at h;cases h
theorem PQ{s:St}{w w':World}{b:Nat}{o:Obj}(f:Fits s w)(U:s.E b=none)(hb:w'.heap[b]? =some o)(Y:∀c,c≠b->∀x,w.heap[c]? =some x->w'.heap[c]? =some x):Fits (s.upd b o) w' where
 e c x K:=by
  have O:c≠b:=λe=>by subst e;simp [St.upd] at K;rw [U] at K;cases K
  exact Y c O x (f.e c x K)
 h c x K:=by
  simp only [St.upd] at K;split at K
  ·rename_i e;subst e;cases K;exact hb
  ·rename_i O;exact Y c O x (f.h c x K)
 d c K:=by
  have O:c≠b:=λe=>by subst e;exact K U
  simp only [St.upd,if_neg O];exact f.d c K
theorem Nr{P:Program}{α:Type}(x:Sem α):∀{s:St} {w:World} {Q:α->St->Prop} {X:Halt->St->Prop},lp P x s Q X->Fits s w->
  ∃s',Fits s' (KR (x.run P w))/\Fr s w s' (KR (x.run P w))/\(∀e∈x.events P w #[],Ev s w (KR (x.run P w)) e)/\aL Q X s' (x.run P w):=by
 induction x with
 | pure a=>intro s w Q X h f;exact⟨s,f,.refl _ _,by simp [Sem.events_pure'],h⟩
 | load m a k O=>
  intro s w Q X h f;obtain⟨rfl,v,a4,h⟩:=h;obtain⟨o,K,bo⟩:=Option.bind_eq_some_iff.1 a4;have hw:=f.get K;have a5:w.cell? a=some v:=by rw [RJ hw,bo]
  have U:(Sem.load Mode.plain a k).run P w=(k v).run P w:=by simp [Sem.run,a5]
  have Y:(Sem.load Mode.plain a k).events P w #[]= #[⟨.cell a,false,false⟩]++(k v).events P w #[]:=by
   rw [← Sem.events_acc];simp only [Sem.events,Sem.runT,a5];rfl
  rw [U,Y];obtain⟨s',ac,Z,ag,al⟩:=O v h f;refine⟨s',ac,Z,λe he=>?_,al⟩;rcases Array.mem_append.1 he with he | he
  ·simp at he;subst he;refine⟨V,Nat.lt_of_lt_of_le (f.lt K) Z.size,?_⟩;by_cases az:s.H a.block=none
   ·refine .inr (.inr ⟨?_,V⟩);exact SG K az
   ·exact .inl az
  ·exact ag e he
 | store m a v k O=>
  intro s w Q X h f;obtain⟨rfl,a4,o,K,a5,bv,h⟩:=h;have hw:=f.h _ _ K;obtain⟨u,hu⟩:=Option.isSome_iff_exists.1 a5;have bb:w.cell? a=some u:=by rw [RJ hw,hu]
  have be:w.frozen? a=false:=by rw [Rf hw,bv]
  have a6:=f.U4 K;obtain⟨a8,a9,f0,rfl⟩:∃c e f,o= .cells c e f:=by cases o <;> simp [cellAt] at hu;exact⟨_,_,_,V⟩
  have bw:(w.setCell a v).heap[a.block]? =some (KM (.cells a8 a9 f0) a v):=by
   simp [World.setCell,KM,Array.getElem?_modify,hw]
  have a0:∀c,c≠a.block->(w.setCell a v).heap[c]? =w.heap[c]? :=by
   intro c aq;simp [World.setCell,Array.getElem?_modify,Ne.symm aq]
  have ap:s.E a.block=none:=by
   cases ap:s.E a.block with
   | none=>rfl
   | some x=>have:=f.d a.block (by rw [ap];simp);rw [K] at this;cases this
  have a1:Fits (s.upd a.block (KM (.cells a8 a9 f0) a v)) (w.setCell a v):=PQ f ap bw (λc aq x av=>by rw [a0 c aq];exact av);have U:(Sem.store Mode.plain a v k).run P w=k.run P (w.setCell a v):=by
   cases v <;> first | (simp [Dv] at a4;done) | simp [Sem.run,bb,be]
  have Y:(Sem.store Mode.plain a v k).events P w #[]= #[⟨.cell a,true,false⟩]++k.events P (w.setCell a v) #[]:=by
   rw [← Sem.events_acc];cases v <;> first | (simp [Dv] at a4;done) | (simp only [Sem.events,Sem.runT,bb,be];rfl)
  have am:Fr s w (s.upd a.block (KM (.cells a8 a9 f0) a v)) (w.setCell a v):=by
   refine⟨by simp [World.setCell],λb hb aw=>a0 b (λe=>by subst e;rw [K] at aw;cases aw),λb hb=>?_,λ_ _ h=>h,λ_ h=> .inl h,V,V,V⟩;simp only [St.upd] at hb;split at hb
   ·rename_i e;subst e;exact .inl (by rw [K];simp)
   ·exact .inl hb
  rw [U,Y];obtain⟨s',ac,Z,ag,al⟩:=O h a1;refine⟨s',ac,am.trans Z,λe he=>?_,al⟩;rcases Array.mem_append.1 he with he | he
  ·simp at he;subst he;exact⟨V,Nat.lt_of_lt_of_le a6 (am.trans Z).size,.inl (by rw [K];simp)⟩
  ·exact(ag e he).M am (Nat.le_refl _)
 | new o k O=>
  intro s w Q X h f;have bi:s.E w.heap.size=none:=by
   cases ap:s.E w.heap.size with
   | none=>rfl
   | some x=>have:=f.e _ _ ap;simp at this
  have bx:s.H w.heap.size=none:=by
   cases ap:s.H w.heap.size with
   | none=>rfl
   | some x=>have:=f.h _ _ ap;simp at this
  have U:(Sem.new o k).run P w=(k w.heap.size).run P {w with heap:=w.heap.push o}:=by simp [Sem.run]
  have Y:(Sem.new o k).events P w #[]=(k w.heap.size).events P {w with heap:=w.heap.push o} #[]:=by simp only [Sem.events,Sem.runT]
  rw [U,Y];have a1:Fits (s.upd w.heap.size o) {w with heap:=w.heap.push o}:=PQ f bi (by simp) (λc aq x av=>by
   have:c<w.heap.size:=by
    rcases Nat.lt_or_ge c w.heap.size with a2 | a2
    ·exact a2
    ·simp [Array.getElem?_eq_none a2] at av
   simp [Array.getElem?_push,Nat.ne_of_lt this,av])
  have am:Fr s w (s.upd w.heap.size o) {w with heap:=w.heap.push o}:=by
   refine⟨by simp,λb hb aw=>by simp [Array.getElem?_push,Nat.ne_of_lt hb],λb hb=>?_,λ_ _ h=>h,λ_ h=> .inl h,V,V,V⟩;simp only [St.upd] at hb;split at hb
   ·rename_i e;subst e;exact .inr (Nat.le_refl _)
   ·exact .inl hb
  obtain⟨s',ac,Z,ag,al⟩:=O _ (h.2 _ bi bx) a1;exact⟨s',ac,am.trans Z,λe he=>(ag e he).M am (Nat.le_refl _),al⟩
 | shape r k O=>
  intro s w Q X h f;obtain⟨o,K,h⟩:=h;have a3:=VH (f.get K);have U:(Sem.shape r k).run P w=(k (shapeOf o)).run P w:=by simp [Sem.run,a3]
  have Y:(Sem.shape r k).events P w #[]=(k (shapeOf o)).events P w #[]:=by simp only [Sem.events,Sem.runT,a3]
  rw [U,Y];exact O _ h f
 | freeze a n k O=>intro s w Q X h f;exact h.elim
 | frozen a k O=>
  intro s w Q X h f;obtain⟨o,K,h⟩:=h;have a3:=Rf (a:=a) (f.get K);have U:(Sem.frozen a k).run P w=(k (frozenAt o a)).run P w:=by simp [Sem.run,a3]
  have Y:(Sem.frozen a k).events P w #[]=(k (frozenAt o a)).events P w #[]:=by simp only [Sem.events,Sem.runT,a3]
  rw [U,Y];exact O _ h f
 | getObj r k O=>
  intro s w Q X h f;obtain⟨o,K,a7,h⟩:=h;have hw:=f.get K;have U:(Sem.getObj r k).run P w=(k o).run P w:=by cases o <;> simp [JZ] at a7 <;> simp [Sem.run,hw]
  have Y:(Sem.getObj r k).events P w #[]= #[⟨.obj r,false,false⟩]++(k o).events P w #[]:=by
   rw [← Sem.events_acc];cases o <;> simp [JZ] at a7 <;> (simp only [Sem.events,Sem.runT,hw,Obj.isChan];rfl)
  rw [U,Y];obtain⟨s',ac,Z,ag,al⟩:=O o h f;refine⟨s',ac,Z,λe he=>?_,al⟩;rcases Array.mem_append.1 he with he | he
  ·simp at he;subst he;refine⟨V,Nat.lt_of_lt_of_le (f.lt K) Z.size,?_⟩;by_cases az:s.H r=none
   ·refine .inr (.inr ⟨?_,V⟩);exact SG K az
   ·exact .inl az
  ·exact ag e he
 | setObj r o k O=>
  intro s w Q X h f;obtain⟨⟨o₀,K,bn⟩,a7,h⟩:=h;have hw:=f.h _ _ K;have a6:=f.U4 K;have ap:s.E r=none:=by
   cases ap:s.E r with
   | none=>rfl
   | some x=>have:=f.d r (by rw [ap];simp);rw [K] at this;cases this
  have U:(Sem.setObj r o k).run P w=k.run P {w with heap:=w.heap.setIfInBounds r o}:=by
   cases o₀ <;> simp [JZ] at bn <;> simp [Sem.run,hw]
  have Y:(Sem.setObj r o k).events P w #[]= #[⟨.obj r,true,false⟩]++k.events P {w with heap:=w.heap.setIfInBounds r o} #[]:=by
   rw [← Sem.events_acc];cases o₀ <;> simp [JZ] at bn <;> cases o <;> simp [JZ] at a7 <;> (simp only [Sem.events,Sem.runT,hw,Obj.isChan];rfl)
  have a0:∀c,c≠r->(w.heap.setIfInBounds r o)[c]? =w.heap[c]? :=λc aq=>by simp [Ne.symm aq]
  have a1:Fits (s.upd r o) {w with heap:=w.heap.setIfInBounds r o}:=PQ f ap (by simp [a6]) (λc aq x av=>by show(w.heap.setIfInBounds r o)[c]? =_;rw [a0 c aq];exact av);have am:Fr s w (s.upd r o) {w with heap:=w.heap.setIfInBounds r o}:=by
   refine⟨by simp,λb hb aw=>a0 b (λe=>by subst e;rw [K] at aw;cases aw),λb hb=>?_,λ_ _ h=>h,λ_ h=> .inl h,V,V,V⟩;simp only [St.upd] at hb;split at hb
   ·rename_i e;subst e;exact .inl (by rw [K];simp)
   ·exact .inl hb
  rw [U,Y];obtain⟨s',ac,Z,ag,al⟩:=O h a1;refine⟨s',ac,am.trans Z,λe he=>?_,al⟩;rcases Array.mem_append.1 he with he | he
  ·simp at he;subst he;exact⟨V,Nat.lt_of_lt_of_le a6 (am.trans Z).size,.inl (by rw [K];simp)⟩
  ·exact(ag e he).M am (Nat.le_refl _)
 | choose q k O=>
  intro s w Q X h f;simp only [lp] at h;by_cases ay:q.forced
  ·rw [if_pos ay] at h;have U:(Sem.choose q k).run P w=(k 0).run P w:=by simp [Sem.run,ay]
   have Y:(Sem.choose q k).events P w #[]=(k 0).events P w #[]:=by simp only [Sem.events,Sem.runT];rw [if_pos ay]
   rw [U,Y];exact O _ h f
  ·rw [if_neg ay] at h;have U:(Sem.choose q k).run P w=(k (q.cut (w.tape w.drawn q))).run P {w with drawn:=w.drawn+1}:=by simp [Sem.run,ay]
   have Y:(Sem.choose q k).events P w #[]=(k (q.cut (w.tape w.drawn q))).events P {w with drawn:=w.drawn+1} #[]:=by simp only [Sem.events,Sem.runT];rw [if_neg ay]
   rw [U,Y];have am:Fr s w s {w with drawn:=w.drawn+1}:=⟨Nat.le_refl _,λ_ _ _=>rfl,λ_ h=> .inl h,λ_ _ h=>h,λ_ h=> .inl h,rfl,rfl,rfl⟩;obtain⟨s',ac,Z,ag,al⟩:=O _ (h.2 (w.tape w.drawn q)) (⟨f.e,f.h,f.d⟩:Fits s {w with drawn:=w.drawn+1});exact⟨s',ac,am.trans Z,λe he=>(ag e he).M am (Nat.le_refl _),al⟩
 | sys c k O=>intro s w Q X h f;exact h.elim
 | program k O=>
  intro s w Q X h f;have U:(Sem.program k).run P w=(k P).run P w:=by simp [Sem.run]
  have Y:(Sem.program k).events P w #[]=(k P).events P w #[]:=by simp only [Sem.events,Sem.runT]
  rw [U,Y];exact O _ h f
 | mark m k O=>
  intro s w Q X h f;have U:(Sem.mark m k).run P w=k.run P w:=by simp [Sem.run]
  have Y:(Sem.mark m k).events P w #[]= #[⟨.mark m,false,true⟩]++k.events P w #[]:=by
   rw [← Sem.events_acc];simp only [Sem.events,Sem.runT];rfl
  rw [U,Y];obtain⟨hm,h⟩:=h;obtain⟨s',ac,Z,ag,al⟩:=O h f;refine⟨s',ac,Z,λe he=>?_,al⟩;rcases Array.mem_append.1 he with he | he
  ·simp at he;subst he;rcases hm with⟨_,rfl⟩ | ⟨g,rfl⟩ <;> trivial
  ·exact ag e he
 | halt h=>intro s w Q X a2 f;exact⟨s,f,.refl _ _,by simp [Sem.events_halt],a2⟩
theorem Rm{P:Program}{fn:FuncId}{es:Array Event}(h:∀e∈es,∃f,e.loc= .mark (.extern f)):seen P fn es= #[]:=by
 rw [seen_def];have:∀(l:List Event) (q:Bool),(∀e∈l,∃f,e.loc= .mark (.extern f))->(l.foldl (seenStep λf=>(P.funcs[f]?).any (·.norace)) (q,#[])).2= #[]:=by
  intro l
  induction l with
  | nil=>intro q _;rfl
  | cons e l K=>
   intro q h;obtain⟨f,O⟩:=h e (by simp);rw [List.foldl_cons];have:seenStep (λf=>(P.funcs[f]?).any (·.norace)) (q,#[]) e=((P.funcs[f]?).any (·.norace),#[]):=by simp [seenStep,O]
   rw [this];exact K _ λx U=>h x (by simp [U])
 exact this es.toList _ λe he=>h e (Array.mem_toList_iff.1 he)
def St.quiet:St:=⟨λ_=>none,λ_=>none,true⟩
theorem Sx{P:Program}{α:Type}(x:Sem α):∀{Q:α->St->Prop} {X:Halt->St->Prop},lp P x .quiet Q X->
  ∃es,(∀w,x.events P w #[]=es)/\(∀e∈es,∃f,e.loc= .mark (.extern f))/\((∃a,Q a .quiet/\(∀w,x.run P w= .ok a w))∨(∃a,X a .quiet/\(∀w,x.run P w= .halt a w))):=by
 induction x with
 | pure a=>intro Q X h;exact⟨#[],λw=>by simp [Sem.events_pure'],by simp,.inl ⟨a,h,λw=>rfl⟩⟩
 | load m a k K=>intro Q X h;obtain⟨_,v,Z,_⟩:=h;simp [St.cell?,St.get,St.quiet] at Z
 | store m a v k K=>intro Q X h;obtain⟨_,_,o,ac,_⟩:=h;cases ac
 | new o k K=>intro Q X h;cases h.1
 | shape r k K=>intro Q X h;obtain⟨o,O,_⟩:=h;simp [St.get,St.quiet] at O
 | freeze a n k K=>intro Q X h;exact h.elim
 | frozen a k K=>intro Q X h;obtain⟨o,O,_⟩:=h;simp [St.get,St.quiet] at O
 | getObj r k K=>intro Q X h;obtain⟨o,O,_⟩:=h;simp [St.get,St.quiet] at O
 | setObj r o k K=>intro Q X h;obtain⟨⟨o,O,_⟩,_⟩:=h;cases O
 | choose q k K=>
  intro Q X h;simp only [lp] at h;by_cases U:q.forced
  ·rw [if_pos U] at h;have Y:∀w,(Sem.choose q k).run P w=(k 0).run P w:=λw=>by simp [Sem.run,U]
   have e2:∀w,(Sem.choose q k).events P w #[]=(k 0).events P w #[]:=λw=>by simp only [Sem.events,Sem.runT];rw [if_pos U]
   simpa only [Y,e2] using K _ h
  ·rw [if_neg U] at h;cases h.1
 | sys c k K=>intro Q X h;exact h.elim
 | program k K=>
  intro Q X h;have Y:∀w,(Sem.program k).run P w=(k P).run P w:=λw=>by simp [Sem.run]
  have e2:∀w,(Sem.program k).events P w #[]=(k P).events P w #[]:=λw=>by simp only [Sem.events,Sem.runT]
  simpa only [Y,e2] using K _ h
 | mark m k K=>
  intro Q X h;obtain⟨hm,h⟩:=h;obtain⟨es,O,Z,ac⟩:=K h;have Y:∀w,(Sem.mark m k).run P w=k.run P w:=λw=>by simp [Sem.run]
  have e2:∀w,(Sem.mark m k).events P w #[]= #[⟨.mark m,false,true⟩]++k.events P w #[]:=λw=>by rw [← Sem.events_acc];simp only [Sem.events,Sem.runT];rfl
  refine⟨#[⟨.mark m,false,true⟩]++es,λw=>by rw [e2,O],λe he=>?_,by simpa only [Y] using ac⟩;rcases Array.mem_append.1 he with he | he
  ·simp at he;subst he;rcases hm with⟨U,_⟩ | hm
   ·cases U
   ·obtain⟨f,rfl⟩:=hm;exact⟨f,V⟩
  ·exact Z e he
 | halt h=>intro Q X ag;exact⟨#[],λw=>by simp [Sem.events_halt],by simp,.inr ⟨h,ag,λw=>rfl⟩⟩
def TY(P:Program)(main:Bool)(g:Goroutine)(s:St)(K:Gs_):Prop:=
 g.status= .running/\(∀w,Fits s w->
  ∃g' s' w' es,stepG P main g w= .go g' w' es/\K g' s'/\Fits s' w'/\Fr s w s' w'/\(∀e∈es,Ev s w w' e))/\
  (s= .quiet->∃g',(∀w,stepG P main g w= .go g' w #[])/\K g' .quiet)
structure CF (s s₀:St):Prop where
 ext:∀b o,s.E b=some o->s₀.E b=some o
 own:∀b o,s₀.H b=some o->s.H b=some o
 Fi:∀b o,s₀.E b=some o->s.E b=some o∨(s.H b=some o/\s₀.H b=none)
 q:s₀.q=s.q
theorem CF.refl(s:St):CF s s:=⟨λ_ _ h=>h,λ_ _ h=>h,λ_ _ h=> .inl h,V⟩
theorem CF.fits{s s₀:St}(g:CF s s₀){w:World}(f:Fits s w):Fits s₀ w where
 e b o h:=by
  rcases g.Fi b o h with x | x
  ·exact f.e _ _ x
  ·exact f.h _ _ x.1
 h b o h:=f.h _ _ (g.own _ _ h)
 d b h:=by
  cases K:s₀.E b with
  | none=>exact absurd K h
  | some o=>
   rcases g.Fi b o K with x | x
   ·cases O:s₀.H b with
    | none=>rfl
    | some y=>have:=g.own _ _ O;rw [f.d b (by rw [x];simp)] at this;cases this
   ·exact x.2
theorem Im{α:Type}{x:Option α}(h:x≠none):∃a,x=some a:=by cases x <;> simp at h;exact⟨_,rfl⟩
theorem CF.fr{s s₀ s':St}{w w':World}(g:CF s s₀)(f:Fr s₀ w s' w'):Fr s w s' w' where
 size:=f.size
 keep b hb O:=f.keep b hb (by
  cases h:s₀.H b with
  | none=>rfl
  | some o=>rw [g.own _ _ h] at O;cases O)
 own b hb:=(f.own b hb).imp (λh=>by obtain⟨o,K⟩:=Im h;rw [g.own _ _ K];simp) id
 ext b o h:=f.ext _ _ (g.ext _ _ h)
 Fi b hb:=by
  rcases f.Fi b hb with h | h | h
  ·obtain⟨o,K⟩:=Im h;rcases g.Fi _ _ K with x | x
   ·exact .inl (by rw [x];simp)
   ·exact .inr (.inl (by rw [x.1];simp))
  ·obtain⟨o,K⟩:=Im h;exact .inr (.inl (by rw [g.own _ _ K];simp))
  ·exact .inr (.inr h)
 tape:=f.tape
 os:=f.os
 output:=f.output
theorem CF.Hb{s s₀:St}{w w':World}{b:Nat}{wr:Bool}(g:CF s s₀)(t:Hb s₀ w w' b wr):Hb s w w' b wr:=by
 refine⟨t.1,?_⟩;rcases t.2 with h | h | ⟨h,hw⟩
 ·obtain⟨o,K⟩:=Im h;exact .inl (by rw [g.own _ _ K];simp)
 ·exact .inr (.inl h)
 ·obtain⟨o,K⟩:=Im h;rcases g.Fi _ _ K with x | x
  ·exact .inr (.inr ⟨by rw [x];simp,hw⟩)
  ·exact .inl (by rw [x.1];simp)
theorem CF.ev{s s₀:St}{w w':World}{e:Event}(g:CF s s₀)(t:Ev s₀ w w' e):Ev s w w' e:=by
 unfold Ev at t ⊢;split <;> rename_i he <;> simp only [he] at t
 ·exact⟨t.1,g.Hb t.2⟩
 ·exact⟨t.1,g.Hb t.2⟩
 ·trivial
 ·trivial
theorem CF.quiet{s₀:St}(g:CF .quiet s₀):s₀= .quiet:=by
 obtain⟨E,H,q⟩:=s₀;have K:E=λ_=>none:=by
  funext b;cases h:E b with
  | none=>rfl
  | some o=>rcases g.Fi b o h with x | ⟨x,_⟩ <;> cases x
 have O:H=λ_=>none:=by
  funext b;cases h:H b with
  | none=>rfl
  | some o=>cases g.own b o h
 have U:q=true:=g.q;subst K O U;rfl
inductive Rk:Type where
 | leaf:Rk
 | node (f:World->Rk):Rk
def Rk.sub(a b:Rk):Prop:=∃f w,b= .node f/\a=f w
theorem Rk.wf:WellFounded Rk.sub:=⟨λr=>by
 induction r with
 | leaf=>exact⟨_,λa ⟨f,w,h,_⟩=>by cases h⟩
 | node f K=>exact⟨_,λa ⟨g,w,h,e⟩=>by cases h;subst e;exact K w⟩⟩
def Jr(P:Program)(main:Bool)(Q:Gs_):Rk->Gs_
 | .leaf,g,s=>Q g s
 | .node f,g,s=>Q g s∨(g.status= .running/\∀w,Fits s w->
  ∃g' s' w' es,stepG P main g w= .go g' w' es/\Jr P main Q (f w) g' s'/\Fits s' w'/\Fr s w s' w'/\(∀e∈es,Ev s w w' e)/\(s= .quiet->s'= .quiet/\w'=w/\es= #[]))
structure Judge (P:Program) where
 main:Bool
 ok:(Gs_)->Gs_
 stop:∀{Q g s},Q g s->ok Q g s
 step:∀{Q g s},TY P main g s (ok Q)->ok Q g s
 trans:∀{Q R g s},ok Q g s->(∀g' s',Q g' s'->ok R g' s')->ok R g s
 ghost:∀{Q g s s₀},CF s s₀->ok Q g s₀->ok Q g s
def JQ(Q:Gs_)(g:Goroutine)(s:St):Prop:=∃s₀,CF s s₀/\Q g s₀
theorem CF.trans{a b c:St}(h:CF a b)(k:CF b c):CF a c where
 ext x o y:=k.ext _ _ (h.ext _ _ y)
 own x o y:=h.own _ _ (k.own _ _ y)
 Fi x o y:=by
  rcases k.Fi x o y with z | z
  ·rcases h.Fi x o z with u | u
   ·exact .inl u
   ·refine .inr ⟨u.1,?_⟩;cases K:c.H x with
    | none=>rfl
    | some v=>have:=k.own _ _ K;rw [u.2] at this;cases this
  ·exact .inr ⟨h.own _ _ z.1,z.2⟩
 q:=k.q.trans h.q
def A8(P:Program)(main:Bool):Judge P where
 main:=main
 ok Q g s:=∃r,Jr P main (JQ Q) r g s
 stop h:=⟨.leaf,_,.refl _,h⟩
 step {Q g s} h:=by
  obtain⟨U,h,hu⟩:=h;have ag:∀w,∃r:Rk,Fits s w->∃g' s' w' es,stepG P main g w= .go g' w' es/\Jr P main (JQ Q) r g' s'/\Fits s' w'/\Fr s w s' w'/\(∀e∈es,Ev s w w' e)/\(s= .quiet->s'= .quiet/\w'=w/\es= #[]):=by
   intro w;by_cases f:Fits s w
   ·by_cases e:s= .quiet
    ·obtain⟨g',K,r,O⟩:=hu e;exact⟨r,λ_=>⟨g',.quiet,w,#[],K w,O,e▸f,e▸ .refl _ _,by simp,λ_=>⟨V,V,V⟩⟩⟩
    ·obtain⟨g',s',w',es,K,⟨r,O⟩,Z,al,am⟩:=h w f;exact⟨r,λ_=>⟨g',s',w',es,K,O,Z,al,am,λx=>absurd x e⟩⟩
   ·exact⟨.leaf,λx=>absurd x f⟩
  exact⟨.node λw=>Classical.choose (ag w),.inr ⟨U,λw f=>Classical.choose_spec (ag w) f⟩⟩
 trans {Q R g s} h k:=by
  obtain⟨r,h⟩:=h;have aq:∀(r:Rk) {g:Goroutine} {s s₀:St},CF s s₀->Jr P main (JQ R) r g s₀->Jr P main (JQ R) r g s:=by
   intro r g s s₀ hg Y;cases r with
   | leaf=>obtain⟨ac,K,O⟩:=Y;exact⟨ac,hg.trans K,O⟩
   | node f=>
    rcases Y with⟨ac,K,O⟩ | ⟨U,Y⟩
    ·exact .inl ⟨ac,hg.trans K,O⟩
    ·exact .inr ⟨U,λw f=>let ⟨g',s',w',es,K,O,Z,al,am,ap⟩:=Y w (hg.fits f);⟨g',s',w',es,K,O,Z,hg.fr al,λe he=>hg.ev (am e he),λe=>ap (by subst e;exact hg.quiet)⟩⟩
  induction r generalizing g s with
  | leaf=>
   obtain⟨s₀,K,O⟩:=h;obtain⟨r,U⟩:=k _ _ O;exact⟨r,aq r K U⟩
  | node f aw=>
   rcases h with⟨s₀,K,O⟩ | ⟨U,h⟩
   ·obtain⟨r,U⟩:=k _ _ O;exact⟨r,aq r K U⟩
   ·have ag:∀w,∃r:Rk,Fits s w->∃g' s' w' es,stepG P main g w= .go g' w' es/\Jr P main (JQ R) r g' s'/\Fits s' w'/\Fr s w s' w'/\(∀e∈es,Ev s w w' e)/\(s= .quiet->s'= .quiet/\w'=w/\es= #[]):=by
     intro w;by_cases av:Fits s w
     ·obtain⟨g',s',w',es,K,O,Z⟩:=h w av;obtain⟨r,U⟩:=aw w O;exact⟨r,λ_=>⟨g',s',w',es,K,U,Z⟩⟩
     ·exact⟨.leaf,λx=>absurd x av⟩
    exact⟨.node λw=>Classical.choose (ag w),.inr ⟨U,λw f=>Classical.choose_spec (ag w) f⟩⟩
 ghost {Q g s s₀} hg h:=by
  obtain⟨r,Y⟩:=h;refine⟨r,?_⟩;cases r with
  | leaf=>obtain⟨ac,K,O⟩:=Y;exact⟨ac,hg.trans K,O⟩
  | node f=>
   rcases Y with⟨ac,K,O⟩ | ⟨U,Y⟩
   ·exact .inl ⟨ac,hg.trans K,O⟩
   ·exact .inr ⟨U,λw f=>let ⟨g',s',w',es,K,O,Z,al,am,ap⟩:=Y w (hg.fits f);⟨g',s',w',es,K,O,Z,hg.fr al,λe he=>hg.ev (am e he),λe=>ap (by subst e;exact hg.quiet)⟩⟩
def Lv(P:Program)(Q:Gs_):Nat->Goroutine->Prop
 | 0,g=>Q g .quiet
 | n+1,g=>Q g .quiet∨(g.status= .running/\∃g',(∀w,stepG P false g w= .go g' w #[])/\Lv P Q n g')
def Is(P:Program):Judge P where
 main:=false
 ok Q g s:=s= .quiet->∃n,Lv P Q n g
 stop h e:=⟨0,by subst e;exact h⟩
 step {Q g s} h e:=by
  obtain⟨g',K,O⟩:=h.2.2 e;obtain⟨n,U⟩:=O V;exact⟨n+1,.inr ⟨h.1,g',K,U⟩⟩
 trans {Q R g s} h k e:=by
  obtain⟨n,U⟩:=h e;have:∀n g,Lv P Q n g->∃m,Lv P R m g:=by
   intro n
   induction n with
   | zero=>intro g h;exact k _ _ h rfl
   | succ n Y=>
    intro g h;rcases h with h | ⟨Z,g',K,O⟩
    ·exact k _ _ h V
    ·obtain⟨m,hm⟩:=Y g' O;exact⟨m+1,.inr ⟨Z,g',K,hm⟩⟩
  exact this n g U
 ghost {Q g s s₀} hg h e:=by subst e;exact h hg.quiet
def fr(b:Frame)(T:Av_)(ds:Ld_)(todo:Li_):Frame:={b with tmps:=T,todo:=todo,defers:=ds,mode:= .run}
def EM(b:Frame)(T:Av_)(ds:Ld_)(todo:Li_):Frame:={b with tmps:=T,todo:=todo,defers:=ds,mode:= .returning}
def BK(T:Av_):Operand->Value
 | .tmp t=>T.getD t undef
 | .const v=>v
 | .global g=> .pointer (some ⟨g,0,none⟩)
 | .func f=> .func (.func f) #[] #[]
abbrev Env:=List (Nat×Value)
def look:Env->Nat->Option Value
 | [],_=>none
 | (t,v)::L,u=>if t=u then some v else look L u
def ev(L:Env):Operand->Option Value
 | .tmp t=>look L t
 | .const v=>some v
 | .global g=>some (.pointer (some ⟨g,0,none⟩))
 | .func f=>some (.func (.func f) #[] #[])
structure Has (n:Nat) (L:Env) (T:Av_):Prop where
 size:T.size=n
 at_:∀t v,look L t=some v->T.getD t undef=v
theorem Has.ev{n:Nat}{L:Env}{T:Av_}(h:Has n L T){x:Operand}{v:Value}(e:ev L x=some v):BK T x=v:=by
 cases x with
 | tmp t=>exact h.at_ t v e
 | const u=>cases e;rfl
 | global g=>cases e;rfl
 | func f=>cases e;rfl
def C7(T:Av_):Option Tmp->Value->Av_
 | some d,v=>T.setIfInBounds d v
 | none,_=>T
def AB(L:Env):Option Tmp->Value->Env
 | some d,v=>(d,v)::L
 | none,_=>L
def Br(n:Nat):Option Tmp->Bool
 | some d=>d<n
 | none=>true
theorem X2(T:Av_)(d:Nat)(v:Value)(h:d<T.size)(t:Nat):(T.setIfInBounds d v).getD t undef=if d=t then v else T.getD t undef:=by
 by_cases e:d=t
 ·subst e;simp [Array.getD_eq_getD_getElem?,h]
 ·simp [Array.getD_eq_getD_getElem?,e]
theorem Has.put{n:Nat}{L:Env}{T:Av_}(h:Has n L T){d:Option Tmp}(hd:Br n d=true)(v:Value):Has n (AB L d v) (C7 T d v):=by
 cases d with
 | none=>exact h
 | some d=>
  have K:d<T.size:=by rw [h.size];simpa [Br] using hd
  refine⟨by simp [C7,h.size],λt u hu=>?_⟩;simp only [C7,X2 T d v K];simp only [AB,look] at hu;split at hu
  ·rename_i e;rw [if_pos e];exact Option.some.inj hu
  ·rename_i e;rw [if_neg e];exact h.at_ t u hu
def Sub:Env->Env->Prop
 | [],_=>True
 | (t,v)::L',L=>look L t=some v/\Sub L' L
theorem Sub.look{L:Env}:∀{L':Env},Sub L' L->∀t v,look L' t=some v->Pal.look L t=some v
 | [],_,t,v,e=>by simp [Pal.look] at e
 | (u,w)::L',h,t,v,e=>by
  simp only [Pal.look] at e
  split at e
  ·rename_i K;subst K;cases e;exact h.1
  ·exact Sub.look h.2 t v e
theorem Has.sub{n:Nat}{L L':Env}{T:Av_}(h:Has n L T)(s:Sub L' L):Has n L' T:=⟨h.size,λt v e=>h.at_ t v (s.look t v e)⟩
variable {P:Program}
section
variable (J:Judge P)(Q:Gs_)
def JL(b:Frame)(n:Nat)(L:Env)(ds:Ld_)(todo:Li_)(cs:Lf_)(s:St):Prop:=
 ∀T,Has n L T->J.ok Q (G (fr b T ds todo) cs) s
end
variable {J:Judge P}{Q:Gs_}{L L':Env}{ds:Ld_}{k:Li_}{cs:Lf_}{s s':St}
section
variable {b:Frame}{n:Nat}
theorem Judge.DC{g g':Goroutine}(K:g.status= .running)(h:∀w,stepG P J.main g w= .go g' w)(k:J.ok Q g' s):J.ok Q g s:=
 J.step ⟨K,λw f=>⟨g',s,w,#[],h w,k,f,.refl _ _,by simp⟩,λe=>⟨g',h,e▸k⟩⟩
theorem ET(h:Sub L' L)(k':JL J Q b n L' ds k cs s):JL J Q b n L ds k cs s:=λT K=>k' T (K.sub h)
theorem JL.ghost(h:CF s s')(k':JL J Q b n L ds k cs s'):JL J Q b n L ds k cs s:=λT K=>J.ghost h (k' T K)
theorem JL.skip(h:JL J Q b n L ds k cs s):JL J Q b n L ds (.code .skip::k) cs s:=λT K=>Judge.DC V (λw=>by simp [G,stepG,stepG.exec,fr]) (h T K)
theorem JL.label{l:Nat}(h:JL J Q b n L ds k cs s):JL J Q b n L ds (.code (.label l)::k) cs s:=λT K=>Judge.DC V (λw=>by simp [G,stepG,stepG.exec,fr]) (h T K)
theorem Me{i:Nat}(h:JL J Q b n L ds k cs s):JL J Q b n L ds (.inBlock i::k) cs s:=λT K=>Judge.DC V (λw=>by simp [G,stepG,stepG.exec,fr]) (h T K)
theorem Vw{c:Code}(h:JL J Q b n L ds k cs s):JL J Q b n L ds (.inScope c::k) cs s:=λT K=>Judge.DC V (λw=>by simp [G,stepG,stepG.exec,fr]) (h T K)
theorem JL.seq{x y:Code}(h:JL J Q b n L ds (.code x:: .code y::k) cs s):JL J Q b n L ds (.code (.seq x y)::k) cs s:=λT K=>Judge.DC V (λw=>by simp [G,stepG,stepG.exec,fr]) (h T K)
theorem JL.block{i:Nat}{c:Code}(h:JL J Q b n L ds (.code c:: .inBlock i::k) cs s):JL J Q b n L ds (.code (.block i c)::k) cs s:=λT K=>Judge.DC V (λw=>by simp [G,stepG,stepG.exec,fr]) (h T K)
theorem JL.scope{c:Code}(h:JL J Q b n L ds (.code c:: .inScope c::k) cs s):JL J Q b n L ds (.code (.scope c)::k) cs s:=λT K=>Judge.DC V (λw=>by simp [G,stepG,stepG.exec,fr]) (h T K)
theorem IV{c:Code}(h:JL J Q b n L ds (.code c:: .inLoop c::k) cs s):JL J Q b n L ds (.code (.loop c)::k) cs s:=λT K=>Judge.DC V (λw=>by simp [G,stepG,stepG.exec,fr]) (h T K)
theorem JL.again{c:Code}(h:JL J Q b n L ds (.code c:: .inLoop c::k) cs s):JL J Q b n L ds (.inLoop c::k) cs s:=λT K=>Judge.DC V (λw=>by simp [G,stepG,stepG.exec,fr]) (h T K)
theorem JL.exit{i:Nat}{k':Li_}(K:exitTo i k=some k')(h:JL J Q b n L ds k' cs s):JL J Q b n L ds (.code (.exit i)::k) cs s:=λT O=>Judge.DC V (λw=>by simp [G,stepG,stepG.exec,fr,K]) (h T O)
theorem Tt(T:Av_)(todo:Li_)(x:Operand):(fr b T ds todo).eval x=BK T x:=by cases x <;> rfl
theorem SM(T:Av_)(todo:Li_):(fr b T ds todo).eval=BK T:=funext (Tt T todo)
theorem JL.cond{c:Operand}{x y:Code}{t:Bool}(U:ev L c=some (.bool t))(h:JL J Q b n L ds (.code (if t then x else y)::k) cs s):JL J Q b n L ds (.code (.cond c x y)::k) cs s:=λT O=>
 Judge.DC V (λw=>by
  have K:=Tt (b:=b) (ds:=ds) T (.code (.cond c x y)::k) c
  rw [O.ev U] at K
  simp only [fr] at K
  simp [G,stepG,stepG.exec,fr,K]) (h T O)
theorem W0{c:Operand}{x y:Code}(K:ev L c=some (.bool true))(h:JL J Q b n L ds (.code x::k) cs s):JL J Q b n L ds (.code (.cond c x y)::k) cs s:=JL.cond K h
theorem WU{c:Operand}{x y:Code}(K:ev L c=some (.bool false))(h:JL J Q b n L ds (.code y::k) cs s):JL J Q b n L ds (.code (.cond c x y)::k) cs s:=JL.cond K h
theorem PT{c:Operand}{x y:Code}{t:Bool}(K:ev L c=some (.bool t))(O:t=true->JL J Q b n L ds (.code x::k) cs s)(U:t=false->JL J Q b n L ds (.code y::k) cs s):JL J Q b n L ds (.code (.cond c x y)::k) cs s:=by
 cases t
 ·exact JL.cond K (U V)
 ·exact JL.cond K (O V)
theorem GF{c:Operand}{x y:Code}{p:Prop} [Decidable p] (K:ev L c=some (.bool (decide p)))(O:p->JL J Q b n L ds (.code x::k) cs s)(U:¬p->JL J Q b n L ds (.code y::k) cs s):JL J Q b n L ds (.code (.cond c x y)::k) cs s:=
 PT K (λh=>O (of_decide_eq_true h)) (λh=>U (of_decide_eq_false h))
theorem JL.loop{α:Type}{c:Code}(I:α->Prop)(O:α->Nat)(U:α->Env)(Y:α->St)(Z:α)(ac:I Z)(ag:L=U Z)(hs:s=Y Z)
  (round:∀a,I a->(∀K,I K->O K<O a->JL J Q b n (U K) ds (.inLoop c::k) cs (Y K))->JL J Q b n (U a) ds (.code c:: .inLoop c::k) cs (Y a)):
  JL J Q b n L ds (.code (.loop c)::k) cs s:=by
 refine IV ?_;subst ag hs;have key:∀m a,O a=m->I a->JL J Q b n (U a) ds (.code c:: .inLoop c::k) cs (Y a):=by
  intro m
  induction m using Nat.strongRecOn with
  | _ m al=>intro a hm am;exact round a am λK ap aq=>JL.again (al (O K) (hm▸aq) K rfl ap)
 exact key _ Z V ac
theorem JL.region{id:Nat}{ops:Ao_}(h:JL J Q b n L ds (.inRegion ops (List.range ops.size)::k) cs s):JL J Q b n L ds (.code (.region id ops false)::k) cs s:=λT K=>Judge.DC V (λw=>by simp [G,stepG,stepG.exec,fr]) (h T K)
theorem JL.done{ops:Ao_}(h:JL J Q b n L ds k cs s):JL J Q b n L ds (.inRegion ops []::k) cs s:=λT K=>Judge.DC V (λw=>by simp [G,stepG,stepG.exec,fr]) (h T K)
theorem S4{id:Nat}{ops:Ao_}(K:s.q=false)(hm:P.follows .mixedOrders=true)(h:∀t,JL J Q b n L ds (.inRegion ops (Region.linearise .any ops t)::k) cs s):JL J Q b n L ds (.code (.region id ops true)::k) cs s:=λT O=>by
 refine J.step ⟨rfl,λw f=>⟨_,s,{w with drawn:=w.drawn+1},#[],?_,h (w.tape w.drawn (.order b.fn id)) T O,⟨f.e,f.h,f.d⟩,⟨Nat.le_refl _,λ_ _ _=>rfl,λ_ h=> .inl h,λ_ _ h=>h,λ_ h=> .inl h,rfl,rfl,rfl⟩,by simp⟩,λe=>by subst e;cases K⟩
 simp [G,stepG,stepG.exec,fr,choose,Sem.run,Question.forced,Question.cut,Region.schedule,hm]
theorem GV(T:Av_)(ops:Ao_)(i:Nat)(rest:List Nat)(v:Value)(o:Oper)(K:ops[i]? =some o):
  (fr b T ds (.inRegion ops (i::rest)::k)).finish v=fr b (C7 T o.dst v) ds (.inRegion ops rest::k):=by
 cases hd:o.dst <;> simp [Frame.finish,fr,K,hd,C7]
theorem stepG_op{main:Bool}{T:Av_}{ops:Ao_}{i:Nat}{rest:List Nat}{o:Oper}{w:World}(K:ops[i]? =some o)(hw:Region.wanted o (yielded ops T)=true):
  stepG P main (G (fr b T ds (.inRegion ops (i::rest)::k)) cs) w=
   match b.roundOf,o.op with
   | some l,.defer c=>stepG.apply P true (fr b T ds (.inRegion ops (i::rest)::k)) cs none (do Instr.deferInRound l (← resolve (BK T) c o.type);pure .skip) w
   | _,_=>stepG.apply P true (fr b T ds (.inRegion ops (i::rest)::k)) cs none (execOp (BK T) o) w:=by
 have he:=SM (b:=b) (ds:=ds) T (.inRegion ops (i::rest)::k);simp only [fr] at he;simp only [G,stepG,stepG.exec,fr,K,Option.map_some,Option.getD_some,hw,if_true,stepG.oper,Frame.oper?,he]
 rfl
theorem Gr(T:Av_)(todo:Li_):(fr b T ds todo).fn=b.fn:=rfl
theorem Iu(T:Av_)(todo:Li_):(fr b T ds todo).todo=todo:=rfl
def upon(J:Judge P)(Q:Gs_)(b:Frame)(T:Av_)(ds:Ld_)(ops:Ao_)(i:Nat)(rest:List Nat)(k:Li_)(cs:Lf_)(dst:Option Tmp):Next->St->Prop
 | .value v,s=>J.ok Q (G (fr b (C7 T dst v) ds (.inRegion ops rest::k)) cs) s
 | .skip,s=>J.ok Q (G (fr b (C7 T dst undef) ds (.inRegion ops rest::k)) cs) s
 | .defer d,s=>J.ok Q (G (fr b (C7 T dst undef) (d::ds) (.inRegion ops rest::k)) cs) s
 | .enter f args,s=>J.ok Q (G (Frame.enter P f args .normal) (fr b T ds (.inRegion ops (i::rest)::k)::cs)) s
 | .round l f tmps assign body,s=>J.ok Q (G (Frame.round l f tmps assign body .normal) (fr b T ds (.inRegion ops (i::rest)::k)::cs)) s
 | _,_=>False
def LL(J:Judge P)(Q:Gs_)(b:Frame)(T:Av_)(ds:Ld_)(ops:Ao_)(i:Nat)(rest:List Nat)(k:Li_)(cs:Lf_):Halt->St->Prop
 | .panic v,s=>J.ok Q (G ((fr b T ds (.inRegion ops (i::rest)::k)).raise [{v,recovered:=false}]) cs) s
 | _,_=>False
theorem Qc{s:St}{w w':World}{fn:FuncId}{es:Array Event}(h:∀e∈es,Ev s w w' e):∀e∈seen P fn es,Ev s w w' e:=λe he=>h e (mem_seen he)
theorem Judge.oper{T:Av_}{ops:Ao_}{i:Nat}{rest:List Nat}{o:Oper}(al:ops[i]? =some o)(hw:Region.wanted o (yielded ops T)=true)(ay:b.kind≠ .early)
  (hd:b.roundOf=none∨∀c,o.op≠ .defer c)
  (h:lp P (execOp (BK T) o) s (upon J Q b T ds ops i rest k cs o.dst) (LL J Q b T ds ops i rest k cs)):
  J.ok Q (G (fr b T ds (.inRegion ops (i::rest)::k)) cs) s:=by
 have U:((fr b T ds (.inRegion ops (i::rest)::k)).kind==CallKind.early)=false:=by simpa [fr] using ay
 have av:∀w,stepG P J.main (G (fr b T ds (.inRegion ops (i::rest)::k)) cs) w=stepG.apply P true (fr b T ds (.inRegion ops (i::rest)::k)) cs none (execOp (BK T) o) w:=by
  intro w;rw [stepG_op al hw];split
  ·rename_i l c aw e2;rcases hd with hd | hd
   ·rw [hd] at aw;cases aw
   ·exact absurd e2 (hd c)
  ·rfl
 refine J.step ⟨V,λw f=>?_,λe=>?_⟩
 rotate_left
 ·subst e;simp only [av];have am:=λv=>GV (b:=b) (ds:=ds) (k:=k) T ops i rest v o al;obtain⟨es,he,Y,h⟩:=Sx _ h;have ag:seen P b.fn es= #[]:=Rm Y;rcases h with⟨ap,K,O⟩ | ⟨x,K,O⟩
  ·cases ap with
   | value v=>exact⟨_,λw=>by simp [stepG.apply,O,U,GStep.after,G,am,Gr,he,ag],K⟩
   | skip=>exact⟨_,λw=>by simp [stepG.apply,O,U,GStep.after,G,am,Gr,he,ag],K⟩
   | enter g args=>exact⟨_,λw=>by simp [stepG.apply,O,U,GStep.after,G,Gr,Iu,he,ag],K⟩
   | round l g tm as az=>exact⟨_,λw=>by simp [stepG.apply,O,U,GStep.after,G,Gr,Iu,he,ag],K⟩
   | defer d=>
    have aq:=GV (b:=b) (ds:=d::ds) (k:=k) T ops i rest undef o al;exact⟨_,λw=>by rw [← aq];simp [stepG.apply,O,U,GStep.after,G,Gr,Iu,he,ag];rfl,K⟩
   | _=>exact K.elim
  ·cases x with
   | panic v=>exact⟨_,λw=>by simp [stepG.apply,O,U,GStep.after,G,Gr,Iu,he,ag],K⟩
   | _=>exact K.elim
 obtain⟨s',Z,ac,a0,K⟩:=Nr _ h f;rw [av];have Y:=Qc (P:=P) (fn:=b.fn) a0;have am:=λv=>GV (b:=b) (ds:=ds) (k:=k) T ops i rest v o al;cases O:(execOp (BK T) o).run P w with
 | ok ap w'=>
  rw [O] at Z ac K Y;simp only [KR] at Z ac Y;cases ap with
  | value v=>exact⟨_,s',w',seen P b.fn ((execOp (BK T) o).events P w #[])++ #[],by simp [stepG.apply,O,U,GStep.after,G,am,Gr],K,Z,ac,by simpa using Y⟩
  | skip=>exact⟨_,s',w',seen P b.fn ((execOp (BK T) o).events P w #[])++ #[],by simp [stepG.apply,O,U,GStep.after,G,am,Gr],K,Z,ac,by simpa using Y⟩
  | enter g args=>exact⟨_,s',w',seen P b.fn ((execOp (BK T) o).events P w #[])++ #[],by simp [stepG.apply,O,U,GStep.after,G,Gr,Iu],K,Z,ac,by simpa using Y⟩
  | round l g tm as az=>exact⟨_,s',w',seen P b.fn ((execOp (BK T) o).events P w #[])++ #[],by simp [stepG.apply,O,U,GStep.after,G,Gr,Iu],K,Z,ac,by simpa using Y⟩
  | defer d=>
   have aq:=GV (b:=b) (ds:=d::ds) (k:=k) T ops i rest undef o al;exact⟨_,s',w',seen P b.fn ((execOp (BK T) o).events P w #[])++ #[],by
    rw [← aq];simp [stepG.apply,O,U,GStep.after,G,Gr,Iu];rfl,K,Z,ac,by simpa using Y⟩
  | _=>exact K.elim
 | halt x w'=>
  rw [O] at Z ac K Y;simp only [KR] at Z ac Y;cases x with
  | panic v=>exact⟨_,s',w',seen P b.fn ((execOp (BK T) o).events P w #[])++ #[],by simp [stepG.apply,O,U,GStep.after,G,Gr,Iu],K,Z,ac,by simpa using Y⟩
  | _=>exact K.elim
theorem Judge.unwanted{T:Av_}{ops:Ao_}{i:Nat}{rest:List Nat}{o:Oper}(K:ops[i]? =some o)(hw:Region.wanted o (yielded ops T)=false)
  (h:J.ok Q (G (fr b (C7 T o.dst undef) ds (.inRegion ops rest::k)) cs) s):J.ok Q (G (fr b T ds (.inRegion ops (i::rest)::k)) cs) s:=by
 refine Judge.DC V (λw=>?_) h;have O:=GV (b:=b) (ds:=ds) (k:=k) T ops i rest undef o K;rw [← O];simp [G,stepG,stepG.exec,fr,K,hw]
end
def Yl(P:Program)(o:Oper)(ρ:Operand->Value)(s:St)(v:Value):Prop:=lp P (execOp ρ o) s (λK s'=>K= .value v/\s'=s) (λ_ _=>False)
def Ff(L:Env)(ρ:Operand->Value):Prop:=∀x v,ev L x=some v->ρ x=v
def AY(L:Env)(ops:Ao_)(o:Oper):Option Bool:=
 match o.guard with
 | none=>some true
 | some (j,K)=>match(ops[j]?).bind (·.dst) with
  | some d=>match look L d with
   | some (.bool b)=>some (b==K)
   | some (.tuple _)=>some false
   | _=>none
  | none=>none
section
variable {b:Frame}{n:Nat}
theorem Has.Gs{T:Av_}(h:Has n L T):Ff L (BK T):=λ_ _ e=>h.ev e
theorem getD_some{T:Av_}{d:Nat}{c:Bool}(h:T.getD d undef= .bool c):T[d]? =some (.bool c):=by
 rw [Array.getD_eq_getD_getElem?] at h;cases K:T[d]? with
 | none=>rw [K] at h;simp [undef] at h
 | some v=>rw [K] at h;simp at h;rw [h]
theorem Cq{T:Av_}{ops:Ao_}{o:Oper}{c:Bool}(h:Has n L T)(hw:AY L ops o=some c):Region.wanted o (yielded ops T)=c:=by
 unfold AY at hw;unfold Region.wanted;cases hg:o.guard with
 | none=>rw [hg] at hw;simpa using hw
 | some p=>
  obtain⟨j,U⟩:=p;rw [hg] at hw;simp only at hw ⊢;cases hd:(ops[j]?).bind (·.dst) with
  | none=>rw [hd] at hw;simp at hw
  | some d=>
   rw [hd] at hw;simp only at hw;cases K:look L d with
   | none=>rw [K] at hw;simp at hw
   | some v=>
    rw [K] at hw;cases v with
    | bool x=>
     simp only [Option.some.injEq] at hw;have:=getD_some (h.at_ d _ K);simp only [yielded,hd,Option.bind_some,this];simp [← hw]
    | tuple c=>
     simp only [Option.some.injEq] at hw;have hg:=h.at_ d _ K;simp only [yielded,hd,Option.bind_some];cases O:T[d]? with
     | none=>simp [← hw]
     | some u=>
      have:u= .tuple c:=by rw [Array.getD_eq_getD_getElem?,O] at hg;exact hg
      subst this;simp [← hw]
    | _=>simp at hw
def Eg:Op->Bool | .defer _=>true | _=>false
def BY(b:Frame)(n:Nat)(o:Oper):Bool:=(b.kind != .early)&&(Br n o.dst&& !Eg o.op)
theorem Yl.out{P:Program}{o:Oper}{ρ:Operand->Value}{s:St}{v:Value}(h:Yl P o ρ s v):Pal.lp P (execOp ρ o) s (λK s'=>K= .value v/\s'=s) (λ_ _=>False):=by unfold Yl at h;exact h
theorem Bf{ops:Ao_}{i:Nat}{rest:List Nat}{o:Oper}{v:Value}(U:ops[i]? =some o)(hw:AY L ops o=some true)(K:BY b n o=true)
  (h:∀ρ,Ff L ρ->Yl P o ρ s v) (Y:JL J Q b n (AB L o.dst v) ds (.inRegion ops rest::k) cs s):
  JL J Q b n L ds (.inRegion ops (i::rest)::k) cs s:=λT O=>by
 simp only [BY,Bool.and_eq_true] at K
 obtain⟨K,Z,hd⟩:=K
 refine Judge.oper U (Cq O hw) (by simpa using K) (.inr λc ac=>by rw [ac] at hd;simp [Eg] at hd) (EH _ (h _ O.Gs).out ?_ ?_)
 ·rintro al s' ⟨rfl,rfl⟩
  exact Y _ (O.put Z v)
 ·intro _ _ ag;exact ag.elim
theorem ID{ops:Ao_}{i:Nat}{rest:List Nat}{o:Oper}(O:ops[i]? =some o)(hw:AY L ops o=some false)(U:Br n o.dst=true)
  (Y:JL J Q b n (AB L o.dst undef) ds (.inRegion ops rest::k) cs s):
  JL J Q b n L ds (.inRegion ops (i::rest)::k) cs s:=λ_ K=>
 Judge.unwanted O (Cq K hw) (Y _ (K.put U undef))
theorem JL.op{ops:Ao_}{i:Nat}{rest:List Nat}{o:Oper}(ac:ops[i]? =some o)(hw:AY L ops o=some true)(K:BY b n o=true)
  (h:∀ρ,Ff L ρ->lp P (execOp ρ o) s (λU s'=>match U with
   | .value v=>JL J Q b n (AB L o.dst v) ds (.inRegion ops rest::k) cs s'
   | .skip=>JL J Q b n (AB L o.dst undef) ds (.inRegion ops rest::k) cs s'
   | _=>False) (λ_ _=>False)):
  JL J Q b n L ds (.inRegion ops (i::rest)::k) cs s:=λT O=>by
 simp only [BY,Bool.and_eq_true] at K
 obtain⟨K,Z,hd⟩:=K
 refine Judge.oper ac (Cq O hw) (by simpa using K) (.inr λc ag=>by rw [ag] at hd;simp [Eg] at hd) (EH _ (h _ O.Gs) ?_ ?_)
 ·intro U s' Y
  cases U with
  | value v=>exact Y _ (O.put Z v)
  | skip=>exact Y _ (O.put Z undef)
  | _=>exact Y.elim
 ·intro _ _ al;exact al.elim
end
variable {ρ:Operand->Value}{y z:Operand}{d:Option Tmp}{t u ty:TypeId}{p:String}{af:Ae_}{g:On_}{kd kd':IntKind}{m':Int}
section
variable {x:Operand}{v:Value}{m:Int}
theorem Yl.move(K:ρ x=v):Yl P ⟨d,.move x,ty,p,af,g⟩ ρ s v:=by simp [Yl,execOp,lp,pure,K]
theorem Yl.assign(K:ρ x=v):Yl P ⟨d,.assign x,ty,p,af,g⟩ ρ s v:=by simp [Yl,execOp,lp,pure,K]
theorem Mk(K:ρ z= .bool true)(O:ρ x=v):Yl P ⟨d,.pick z x y,ty,p,af,g⟩ ρ s v:=by simp [Yl,execOp,lp,pure,bind,Sem.bind,asBool,K,O]
theorem Wn(K:ρ z= .bool false)(O:ρ y=v):Yl P ⟨d,.pick z x y,ty,p,af,g⟩ ρ s v:=by simp [Yl,execOp,lp,pure,bind,Sem.bind,asBool,K,O]
theorem Yl.lss(K:ρ x= .int kd m)(O:ρ y= .int kd m'):Yl P ⟨d,.binOp .lss t x y u,ty,p,af,g⟩ ρ s (.bool (decide (m<m'))):=by
 simp [Yl,execOp,lp,pure,bind,Sem.bind,K,O,eqGuard,Go.binOp,Op.intCmp]
theorem Yl.leq(K:ρ x= .int kd m)(O:ρ y= .int kd m'):Yl P ⟨d,.binOp .leq t x y u,ty,p,af,g⟩ ρ s (.bool (decide (m<=m'))):=by
 simp [Yl,execOp,lp,pure,bind,Sem.bind,K,O,eqGuard,Go.binOp,Op.intCmp]
theorem Yl.gtr(K:ρ x= .int kd m)(O:ρ y= .int kd m'):Yl P ⟨d,.binOp .gtr t x y u,ty,p,af,g⟩ ρ s (.bool (decide (m'<m))):=by
 simp [Yl,execOp,lp,pure,bind,Sem.bind,K,O,eqGuard,Go.binOp,Op.intCmp]
theorem Yl.geq(K:ρ x= .int kd m)(O:ρ y= .int kd m'):Yl P ⟨d,.binOp .geq t x y u,ty,p,af,g⟩ ρ s (.bool (decide (m'<=m))):=by
 simp [Yl,execOp,lp,pure,bind,Sem.bind,K,O,eqGuard,Go.binOp,Op.intCmp]
theorem Yl.eql(K:ρ x= .int kd m)(O:ρ y= .int kd m'):Yl P ⟨d,.binOp .eql t x y u,ty,p,af,g⟩ ρ s (.bool (decide (m=m'))):=by
 simp [Yl,execOp,lp,pure,bind,Sem.bind,K,O,eqGuard,Go.binOp,Op.intCmp];rfl
theorem Yl.neq(K:ρ x= .int kd m)(O:ρ y= .int kd m'):Yl P ⟨d,.binOp .neq t x y u,ty,p,af,g⟩ ρ s (.bool (!decide (m=m'))):=by
 simp [Yl,execOp,lp,pure,bind,Sem.bind,K,O,eqGuard,Go.binOp,Op.intCmp];rfl
theorem Yl.add(K:ρ x= .int kd m)(O:ρ y= .int kd m'):Yl P ⟨d,.binOp .add t x y u,ty,p,af,g⟩ ρ s (.int kd (kd.wrap (m+m'))):=by
 simp [Yl,execOp,lp,pure,bind,Sem.bind,K,O,eqGuard,Go.binOp,Op.intArith]
theorem Yl.sub(K:ρ x= .int kd m)(O:ρ y= .int kd m'):Yl P ⟨d,.binOp .sub t x y u,ty,p,af,g⟩ ρ s (.int kd (kd.wrap (m - m'))):=by
 simp [Yl,execOp,lp,pure,bind,Sem.bind,K,O,eqGuard,Go.binOp,Op.intArith]
theorem Yl.mul(K:ρ x= .int kd m)(O:ρ y= .int kd m'):Yl P ⟨d,.binOp .mul t x y u,ty,p,af,g⟩ ρ s (.int kd (kd.wrap (m*m'))):=by
 simp [Yl,execOp,lp,pure,bind,Sem.bind,K,O,eqGuard,Go.binOp,Op.intArith]
theorem JW{a:Int}(h: -9223372036854775808<=a/\a<=9223372036854775807):IntKind.i64.wrap a=a:=by
 simp only [IntKind.wrap,IntKind.bits,IntKind.signed];simp;split <;> omega
theorem Yn(K:ρ x= .int .i64 m)(O:ρ y= .int .i64 m')(hb: -9223372036854775808<=m+m'/\m+m'<=9223372036854775807):Yl P ⟨d,.binOp .add t x y u,ty,p,af,g⟩ ρ s (.int .i64 (m+m')):=by
 have:=Yl.add (P:=P) (s:=s) (d:=d) (t:=t) (u:=u) (ty:=ty) (p:=p) (af:=af) (g:=g) K O;rwa [JW hb] at this
theorem Zi(K:ρ x= .int .i64 m)(O:ρ y= .int .i64 m')(hb: -9223372036854775808<=m - m'/\m - m'<=9223372036854775807):Yl P ⟨d,.binOp .sub t x y u,ty,p,af,g⟩ ρ s (.int .i64 (m - m')):=by
 have:=Yl.sub (P:=P) (s:=s) (d:=d) (t:=t) (u:=u) (ty:=ty) (p:=p) (af:=af) (g:=g) K O;rwa [JW hb] at this
theorem YK(K:ρ x= .int .i64 m)(O:ρ y= .int .i64 m')(hb: -9223372036854775808<=m*m'/\m*m'<=9223372036854775807):Yl P ⟨d,.binOp .mul t x y u,ty,p,af,g⟩ ρ s (.int .i64 (m*m')):=by
 have:=Yl.mul (P:=P) (s:=s) (d:=d) (t:=t) (u:=u) (ty:=ty) (p:=p) (af:=af) (g:=g) K O;rwa [JW hb] at this
theorem Yl.rem(K:ρ x= .int kd m)(O:ρ y= .int kd m')(U:m'≠0):Yl P ⟨d,.binOp .rem t x y u,ty,p,af,g⟩ ρ s (.int kd (m.tmod m')):=by
 simp [Yl,execOp,lp,pure,bind,Sem.bind,K,O,eqGuard,Go.binOp,Op.intDiv,U]
theorem Yl.quo(K:ρ x= .int kd m)(O:ρ y= .int kd m')(U:m'≠0):Yl P ⟨d,.binOp .quo t x y u,ty,p,af,g⟩ ρ s (.int kd (kd.wrap (m.tdiv m'))):=by
 simp [Yl,execOp,lp,pure,bind,Sem.bind,K,O,eqGuard,Go.binOp,Op.intDiv,U]
theorem Yl.and(K:ρ x= .int kd m)(O:ρ y= .int kd m'):Yl P ⟨d,.binOp .and t x y u,ty,p,af,g⟩ ρ s (.int kd (kd.wrap (BitVec.ofInt kd.bits m&&& BitVec.ofInt kd.bits m').toNat)):=by
 simp [Yl,execOp,lp,pure,bind,Sem.bind,K,O,eqGuard,Go.binOp,Op.intBits]
theorem Yl.or(K:ρ x= .int kd m)(O:ρ y= .int kd m'):Yl P ⟨d,.binOp .or t x y u,ty,p,af,g⟩ ρ s (.int kd (kd.wrap (BitVec.ofInt kd.bits m ||| BitVec.ofInt kd.bits m').toNat)):=by
 simp [Yl,execOp,lp,pure,bind,Sem.bind,K,O,eqGuard,Go.binOp,Op.intBits]
theorem Yl.xor(K:ρ x= .int kd m)(O:ρ y= .int kd m'):Yl P ⟨d,.binOp .xor t x y u,ty,p,af,g⟩ ρ s (.int kd (kd.wrap (BitVec.ofInt kd.bits m ^^^ BitVec.ofInt kd.bits m').toNat)):=by
 simp [Yl,execOp,lp,pure,bind,Sem.bind,K,O,eqGuard,Go.binOp,Op.intBits]
theorem Yl.shl(K:ρ x= .int kd m)(O:ρ y= .int kd' m')(U:0<=m'):Yl P ⟨d,.binOp .shl t x y u,ty,p,af,g⟩ ρ s (.int kd (kd.wrap (m*2 ^ (min m'.toNat kd.bits)))):=by
 have:¬m'<0:=by omega
 simp [Yl,execOp,lp,pure,bind,Sem.bind,K,O,eqGuard,Go.binOp,Op.shift,this]
theorem Yl.shr(K:ρ x= .int kd m)(O:ρ y= .int kd' m')(U:0<=m'):Yl P ⟨d,.binOp .shr t x y u,ty,p,af,g⟩ ρ s (.int kd (m.fdiv (2 ^ (min m'.toNat kd.bits)))):=by
 have:¬m'<0:=by omega
 simp [Yl,execOp,lp,pure,bind,Sem.bind,K,O,eqGuard,Go.binOp,Op.shift,this]
theorem Yl.not{c:Bool}(K:ρ x= .bool c):Yl P ⟨d,.unOp .not t x,ty,p,af,g⟩ ρ s (.bool (!c)):=by
 simp [Yl,execOp,lp,pure,bind,Sem.bind,K,Op.unary]
theorem Zg(K:ρ x= .int .i64 m)(hb: -9223372036854775808<= -m/\ -m<=9223372036854775807):Yl P ⟨d,.unOp .neg t x,ty,p,af,g⟩ ρ s (.int .i64 (-m)):=by
 simp [Yl,execOp,lp,pure,bind,Sem.bind,K,Op.unary,Op.intArith,JW hb]
theorem FI(ht:P.underlying t=some (.int kd'))(hu:P.underlying u=some (.int kd))(K:ρ x= .int kd' m):Yl P ⟨d,.convert t u x,ty,p,af,g⟩ ρ s (.int kd (kd.wrap m)):=by
 simp [Yl,execOp,lp,pure,bind,Sem.bind,K,Go.convert,underlying,program,ht,hu,Conv.intToInt]
theorem Yl.extract{vs:Av_}{i:Nat}(K:ρ x= .tuple vs)(hi:vs[i]? =some v):Yl P ⟨d,.extract x i,ty,p,af,g⟩ ρ s v:=by
 simp [Yl,execOp,lp,pure,bind,Sem.bind,K,Instr.extract,hi]
theorem Yl.nilCheck{a:Addr}(K:ρ x= .pointer (some a)):Yl P ⟨d,.nilCheck x,ty,p,af,g⟩ ρ s (.pointer (some a)):=by
 simp [Yl,execOp,lp,pure,K]
theorem Yl.len{a:Option Addr}{e:TypeId}{l c:Nat}{ats:Array TypeId}(K:ats[0]? =some t)(ht:P.underlying t=some (.slice e))(O:ρ x= .slice a l c):
  Yl P ⟨d,.call ⟨.builtin .len,#[x],ats⟩,ty,p,af,g⟩ ρ s (.int .i64 l):=by
 simp [Yl,execOp,lp,pure,bind,Sem.bind,O,resolve,invoke,builtin,Builtin.len_,K,underlying,program,ht,goInt]
theorem Py{dsc:TypeDesc}(ht:P.underlying t=some dsc)(K:∀ms,dsc≠ .interface ms)(O:ρ x=v):Yl P ⟨d,.makeInterface t x,ty,p,af,g⟩ ρ s (.iface t v):=by
 have:lp P (Instr.makeInterface t v) s (λr s'=>r= .iface t v/\s'=s) (λ_ _=>False):=by
  unfold Instr.makeInterface;simp only [lp,bind,Sem.bind,underlying,program,ht];cases dsc <;> first | exact⟨rfl,rfl⟩ | exact absurd rfl (K _)
 simp only [Yl,execOp,O];exact Az _ _ (EH _ this (λr s' ⟨U,Y⟩=>⟨by rw [U],Y⟩) (λ_ _ h=>h))
theorem Lc{fn:Fn}{a c:Array Operand}{va K:Av_}(O:a.map ρ=va)(U:c.map ρ=K):Yl P ⟨d,.makeFunc fn a c,ty,p,af,g⟩ ρ s (.func fn va K):=by
 simp [Yl,execOp,lp,pure,bind,Sem.bind,Instr.makeFunc,O,U]
end
attribute [irreducible] Yl
def Le(E E':LH):Prop:=∀b o,E b=some o->E' b=some o
theorem Le.refl(E:LH):Le E E:=λ_ _ h=>h
theorem Le.trans{E E' K:LH}(h:Le E E')(k:Le E' K):Le E K:=λb o x=>k b o (h b o x)
theorem Ax{E:LH}:Le E E:=Le.refl E
theorem Le.I{a b c:LH}(h:Le a b)(k:Le b c):Le a c:=h.trans k
def Bc:List (Nat×Obj)->LH->LH
 | [],H=>H
 | (b,o)::B,H=>λx=>if x=b then some o else Bc B H x
def mk(E H:LH)(B:List (Nat×Obj)):St:=⟨E,Bc B H,false⟩
def Nd(E H:LH):List (Nat×Obj)->Prop
 | []=>True
 | (b,_)::B=>E b=none/\H b=none/\(∀p∈B,p.1≠b)/\Nd E H B
theorem RN{H:LH}{b:Nat}:∀{B:List (Nat×Obj)},H b=none->(∀p∈B,p.1≠b)->Bc B H b=none
 | [],h,_=>h
 | (c,o)::B,h,hb=>by
  have K:b≠c:=λe=>hb (c,o) (by simp) e.symm
  simp only [Bc,if_neg K]
  exact RN h λp O=>hb p (List.mem_cons_of_mem _ O)
theorem HS{H:LH}{b:Nat}:∀{B:List (Nat×Obj)},Bc B H b=none->H b=none/\∀p∈B,p.1≠b
 | [],h=>⟨h,by simp⟩
 | (c,o)::B,h=>by
  simp only [Bc] at h
  split at h
  ·cases h
  ·rename_i O;obtain⟨U,Y⟩:=HS h;refine⟨U,λp K=>?_⟩;rcases List.mem_cons.1 K with rfl | K
   ·exact λe=>O e.symm
   ·exact Y p K
theorem Rj{H:LH}{x:Nat}{o:Obj}{r:Nat}:∀{B:List (Nat×Obj)},(∀p∈B,p.1≠r)->Bc (B++ [(r,o)]) H x=if x=r then some o else Bc B H x
 | [],_=>rfl
 | (c,u)::B,h=>by
  simp only [List.cons_append,Bc]
  by_cases e:x=c
  ·subst e
   have:x≠r:=λe=>h (x,u) (by simp) e;simp [this]
  ·simp only [if_neg e];exact Rj λp K=>h p (List.mem_cons_of_mem _ K)
theorem Nd.append{E H:LH}{r:Nat}{o:Obj}(O:E r=none)(U:H r=none):∀{B:List (Nat×Obj)},(∀p∈B,p.1≠r)->Nd E H B->Nd E H (B++ [(r,o)])
 | [],_,_=>⟨O,U,by simp,trivial⟩
 | (c,u)::B,h,Y=>by
  obtain⟨Z,ac,ag,al⟩:=Y
  refine⟨Z,ac,λp K=>?_,Nd.append O U (λp K=>h p (List.mem_cons_of_mem _ K)) al⟩
  rcases List.mem_append.1 K with K | K
  ·exact ag p K
  ·simp at K;subst K;exact λe=>h (c,u) (by simp) e.symm
theorem Jo{E H:LH}{b:Nat}{o:Obj}:∀{B:List (Nat×Obj)} {i:Nat},Nd E H B->B[i]? =some (b,o)->Bc B H b=some o
 | [],_,_,h=>by simp at h
 | (c,u)::B,0,_,h=>by simp at h;obtain⟨rfl,rfl⟩:=h;simp [Bc]
 | (c,u)::B,i+1,K,h=>by
  simp at h
  have O:b≠c:=K.2.2.1 (b,o) (List.mem_of_getElem? h)
  simp only [Bc,if_neg O]
  exact Jo K.2.2.2 h
theorem Si{E H:LH}{b:Nat}{o o':Obj}:∀{B:List (Nat×Obj)} {i:Nat},Nd E H B->B[i]? =some (b,o)->Bc (B.set i (b,o')) H=λx=>if x=b then some o' else Bc B H x
 | [],_,_,h=>by simp at h
 | (c,u)::B,0,_,h=>by
  simp at h;obtain⟨rfl,rfl⟩:=h
  funext x
  simp only [List.set_cons_zero,Bc]
  split <;> rfl
 | (c,u)::B,i+1,K,h=>by
  simp at h
  have O:b≠c:=K.2.2.1 (b,o) (List.mem_of_getElem? h)
  funext x
  simp only [List.set_cons_succ,Bc]
  rw [Si K.2.2.2 h]
  by_cases e:x=c
  ·subst e;simp [Ne.symm O]
  ·simp [e]
theorem Nd.set{E H:LH}{b:Nat}{o o':Obj}:∀{B:List (Nat×Obj)} {i:Nat},Nd E H B->B[i]? =some (b,o)->Nd E H (B.set i (b,o'))
 | [],_,_,h=>by simp at h
 | (c,u)::B,0,K,h=>by simp at h;obtain⟨rfl,rfl⟩:=h;exact K
 | (c,u)::B,i+1,K,h=>by
  simp at h
  refine⟨K.1,K.2.1,λp O=>?_,K.2.2.2.set h⟩
  have hm:=List.mem_or_eq_of_mem_set O
  rcases hm with hm | rfl
  ·exact K.2.2.1 p hm
  ·exact K.2.2.1 (b,o) (List.mem_of_getElem? h)
theorem Nd.Ty{E H:LH}{b:Nat}{o:Obj}:∀{B:List (Nat×Obj)} {i:Nat},Nd E H B->B[i]? =some (b,o)->E b=none
 | [],_,_,h=>by simp at h
 | (c,u)::B,0,K,h=>by simp at h;obtain⟨rfl,rfl⟩:=h;exact K.1
 | (c,u)::B,i+1,K,h=>by simp at h;exact Nd.Ty K.2.2.2 h
theorem Px{E H:LH}{B:List (Nat×Obj)}{i b:Nat}{o:Obj}(K:Nd E H B)(h:B[i]? =some (b,o)):(mk E H B).get b=some o:=by
 unfold St.get mk;simp only [K.Ty h,Jo K h]
theorem Vv{E H:LH}{B:List (Nat×Obj)}{b:Nat}{o:Obj}(h:E b=some o):(mk E H B).get b=some o:=by
 unfold St.get mk;simp only [h]
theorem SH{E H:LH}{B:List (Nat×Obj)}{i b off:Nat}{c:Av_}{e:TypeId}{f:Nat×Nat}{v:Value}(K:Nd E H B)(h:B[i]? =some (b,.cells c e f))(O:c[off]? =some v):(mk E H B).cell? ⟨b,off,none⟩=some v:=by
 unfold St.cell?;rw [Px K h];exact O
theorem Wi{E H:LH}{B:List (Nat×Obj)}{b off:Nat}{c:Av_}{e:TypeId}{f:Nat×Nat}{v:Value}(h:E b=some (.cells c e f))(K:c[off]? =some v):(mk E H B).cell? ⟨b,off,none⟩=some v:=by
 unfold St.cell?;rw [Vv h];exact K
variable {E H:LH}{B B':List (Nat×Obj)}
section
variable {b:Frame}{n:Nat}
theorem KF{r:Nat}(O:(mk E H B).E r=none)(U:(mk E H B).H r=none)(o:Obj)(Y:Nd E H B):Nd E H (B++ [(r,o)])/\(mk E H B).upd r o=mk E H (B++ [(r,o)]):=by
 obtain⟨Z,K⟩:=HS U;refine⟨Nd.append O Z K Y,?_⟩;unfold St.upd mk;congr 1;funext x;exact(Rj K).symm
theorem Zu{i bk:Nat}{o o':Obj}(K:Nd E H B)(h:B[i]? =some (bk,o)):(mk E H B).upd bk o'=mk E H (B.set i (bk,o')):=by
 unfold St.upd mk;congr 1;exact(Si K h).symm
theorem JL.drop(B':List (Nat×Obj))(h:∀p∈B',∃i:Nat,B[i]? =some p)(U:Nd E H B)(k':JL J Q b n L ds k cs (mk E H B')):JL J Q b n L ds k cs (mk E H B):=
 JL.ghost (s':=mk E H B') ⟨λ_ _ h=>h,λx o O=>by
  show Bc B H x=some o
  have key:∀{B':List (Nat×Obj)},(∀p∈B',∃i:Nat,B[i]? =some p)->Bc B' H x=some o->Bc B H x=some o:=by
   intro B'
   induction B' with
   | nil=>
    intro _ O
    have al:∀p∈B,p.1≠x:=by
     intro p K e
     have:∀{B:List (Nat×Obj)},Nd E H B->p∈B->H p.1=none:=by
      intro B U K
      induction B with
      | nil=>simp at K
      | cons q B Y=>
       rcases List.mem_cons.1 K with rfl | K
       ·exact U.2.1
       ·exact Y U.2.2.2 K
     have ac:=this U K
     rw [e] at ac
     have ag:H x=some o:=O
     rw [ac] at ag;cases ag
    have:∀{B:List (Nat×Obj)},(∀p∈B,p.1≠x)->Bc B H x=H x:=by
     intro B Z
     induction B with
     | nil=>rfl
     | cons q B Y=>
      have am:x≠q.1:=λe=>Z q (by simp) e.symm
      obtain⟨c,u⟩:=q
      simp only [Bc,if_neg am]
      exact Y λp K=>Z p (List.mem_cons_of_mem _ K)
    rw [this al];exact O
   | cons q B' Y=>
    intro Z O
    obtain⟨c,u⟩:=q
    simp only [Bc] at O
    split at O
    ·rename_i e;subst e;cases O
     obtain⟨i,hi⟩:=Z (x,o) (by simp)
     exact Jo U hi
    ·exact Y (λp K=>Z p (List.mem_cons_of_mem _ K)) O
  exact key h O,λ_ _ h=> .inl h,V⟩ k'
theorem Mf{x:Nat}:∀{B:List (Nat×Obj)} {i:Nat} {bk:Nat} {o u:Obj},Nd E H B->B[i]? =some (bk,o)->Bc (B.eraseIdx i) H x=some u->x≠bk/\Bc B H x=some u
 | [],_,_,_,_,_,h,_=>by simp at h
 | (c,v)::B,0,bk,o,u,O,h,K=>by
  simp at h;obtain⟨rfl,rfl⟩:=h
  simp only [List.eraseIdx_cons_zero] at K
  have U:x≠c:=by
   intro e;subst e;rw [RN O.2.1 O.2.2.1] at K;cases K
  exact⟨U,by simp only [Bc,if_neg U];exact K⟩
 | (c,v)::B,i+1,bk,o,u,O,h,K=>by
  simp at h;simp only [List.eraseIdx_cons_succ,Bc] at K ⊢;split at K
  ·rename_i e;subst e;rw [if_pos rfl];exact⟨λe=>O.2.2.1 (bk,o) (List.mem_of_getElem? h) e.symm,K⟩
  ·rename_i e;rw [if_neg e];exact Mf O.2.2.2 h K
theorem JL.freeze(i:Nat){bk:Nat}{o:Obj}(K:Nd E H B)(h:B[i]? =some (bk,o))
  (k':∀E',Le E E'->E' bk=some o->Nd E' H (B.eraseIdx i)->JL J Q b n L ds k cs (mk E' H (B.eraseIdx i))):JL J Q b n L ds k cs (mk E H B):=by
 have ap:=List.mem_of_getElem? h;have aq:E bk=none/\H bk=none:=by
  have:∀{B:List (Nat×Obj)},Nd E H B->(bk,o)∈B->E bk=none/\H bk=none:=by
   intro B K O
   induction B with
   | nil=>simp at O
   | cons q B Y=>
    rcases List.mem_cons.1 O with rfl | O
    ·exact⟨K.1,K.2.1⟩
    ·exact Y K.2.2.2 O
  exact this K ap
 let E':LH:=λx=>if x=bk then some o else E x
 have ag:E' bk=some o:=by simp [E']
 have hle:Le E E':=λx u U=>by
  have:x≠bk:=λe=>by subst e;rw [aq.1] at U;cases U
  simp [E',this,U]
 have av:Nd E' H (B.eraseIdx i):=by
  have:∀{B:List (Nat×Obj)} {i:Nat},Nd E H B->B[i]? =some (bk,o)->Nd E' H (B.eraseIdx i)/\∀p∈B.eraseIdx i,p.1≠bk:=by
   intro B
   induction B with
   | nil=>intro i _ h;simp at h
   | cons q B Y=>
    obtain⟨c,v⟩:=q;intro i K h;have up:∀{B:List (Nat×Obj)},Nd E H B->(∀p∈B,p.1≠bk)->Nd E' H B:=by
     intro B K al
     induction B with
     | nil=>trivial
     | cons q B aw=>exact⟨by simpa [E',al q (by simp)] using K.1,K.2.1,K.2.2.1,aw K.2.2.2 λp O=>al p (List.mem_cons_of_mem _ O)⟩
    cases i with
    | zero=>
     simp at h;obtain⟨rfl,rfl⟩:=h;exact⟨up K.2.2.2 K.2.2.1,K.2.2.1⟩
    | succ i=>
     simp at h;obtain⟨Z,ac⟩:=Y K.2.2.2 h;have am:c≠bk:=λe=>K.2.2.1 (bk,o) (List.mem_of_getElem? h) e.symm;refine⟨⟨by simpa [E',am] using K.1,K.2.1,λp O=>K.2.2.1 p (List.mem_of_mem_eraseIdx O),Z⟩,λp O=>?_⟩;rcases List.mem_cons.1 O with rfl | O
     ·exact am
     ·exact ac p O
  exact(this K h).1
 refine JL.ghost (s':=mk E' H (B.eraseIdx i)) ⟨λx u U=>hle x u U,λx u U=>(Mf K h U).2,λx u U=>?_,V⟩ (k' E' hle ag av);by_cases e:x=bk
 ·subst e;right;have:u=o:=by have:E' x=some u:=U;rw [ag] at this;exact(Option.some.inj this).symm
  subst this;refine⟨Jo K h,?_⟩;cases ay:(mk E' H (B.eraseIdx i)).H x with
  | none=>rfl
  | some y=>exact absurd rfl (Mf K h ay).1
 ·left;have Z:E' x=some u:=U;have ac:E' x=E x:=by simp [E',e]
  show E x=some u;rw [← ac];exact Z
def Fn(P:Program)(f:FuncId)(args:Av_)(s:St)(R:Value->St->Prop):Prop:=
 ∀(J:Judge P) (Q:Gs_) (c:Frame) (cs:Lf_),(∀v s',R v s'->J.ok Q (G (c.finish v) cs) s')->J.ok Q (G (Frame.enter P f args .normal) (c::cs)) s
def Em(P:Program)(f:FuncId):Bool:=match P.funcs[f]? with | some fn=> !(fn.name== "runtime.NumGoroutine")&&fn.body.isSome | none=>false
def evs(L:Env):List Operand->Option (Lv_)
 | []=>some []
 | x::xs=>match ev L x,evs L xs with | some v,some vs=>some (v::vs) | _,_=>none
theorem GW{L:Env}{ρ:Operand->Value}(h:Ff L ρ):∀{xs:List Operand} {vs:Lv_},evs L xs=some vs->xs.map ρ=vs
 | [],vs,e=>by simp [evs] at e;subst e;rfl
 | x::xs,vs,e=>by
  simp only [evs] at e
  split at e
  ·rename_i v ws K O
   cases e;rw [List.map_cons,h x v K,GW h O]
  ·cases e
theorem Ji{f:FuncId}{args:Av_}{s:St}{Q:Next->St->Prop}{X:Halt->St->Prop}(K:Em P f=true)(h:Q (.enter f args) s):lp P (callFunc f args) s Q X:=by
 unfold Em at K;unfold callFunc;simp only [bind,Sem.bind,program,lp];cases O:P.funcs[f]? with
 | none=>rw [O] at K;cases K
 | some fn=>
  rw [O] at K;simp only [Bool.and_eq_true,Bool.not_eq_true'] at K;have hb:fn.body.isNone=false:=by cases U:fn.body <;> simp_all
  simp only [K.1,hb,Bool.false_eq_true,if_false];exact h
def BH(P:Program)(f:FuncId)(L:Env)(n:Nat)(s:St)(v:Value):Prop:=∃fn,P.funcs[f]? =some fn/\∀T,Has n L T->lp P (results fn T) s (λu s'=>u=v/\s'=s) (λ_ _=>False)
theorem Judge.leave{T:Av_}{todo:Li_}{c:Frame}{s:St}{v:Value}{fn:Func}(Y:b.kind= .normal)(Z:P.funcs[b.fn]? =some fn)(U:lp P (results fn T) s (λu s'=>u=v/\s'=s) (λ_ _=>False))
  (h:J.ok Q (G (c.finish v) cs) s):J.ok Q (G (EM b T [] todo) (c::cs)) s:=by
 refine J.step ⟨V,λw f=>?_,λe=>?_⟩
 rotate_left
 ·subst e;obtain⟨es,he,am,U⟩:=Sx _ U;have ap:seen P b.fn es= #[]:=Rm am;rcases U with⟨u,⟨rfl,_⟩,O⟩ | ⟨x,K,_⟩
  ·exact⟨_,λw=>by simp [G,stepG,unwind,EM,Z,O,doReturn,Y,GStep.after,he,ap],h⟩
  ·exact K.elim
 obtain⟨s',ac,ag,al,K⟩:=Nr _ U f;cases O:(results fn T).run P w with
 | halt x w'=>rw [O] at K;exact K.elim
 | ok u w'=>
  rw [O] at ac ag al K;obtain⟨rfl,rfl⟩:=K;exact⟨_,s',w',seen P b.fn ((results fn T).events P w #[])++ #[],by simp [G,stepG,unwind,EM,Z,O,doReturn,Y,GStep.after],h,ac,ag,by simp only [Array.append_empty];exact Qc al⟩
theorem JL.ret{s:St}{c:Frame}{v:Value}(O:b.kind= .normal)(U:b.roundOf=none)(K:BH P b.fn L n s v)(h:J.ok Q (G (c.finish v) cs) s):JL J Q b n L [] (.code .ret::k) (c::cs) s:=λT Y=>by
 obtain⟨fn,Z,K⟩:=K
 refine Judge.DC (g':=G (EM b T [] (.code .ret::k)) (c::cs)) rfl (λw=>by simp [G,stepG,stepG.exec,fr,EM,U]) ?_
 exact Judge.leave O Z (K T Y) h
theorem JL.fin{s:St}{c:Frame}{v:Value}(O:b.kind= .normal)(U:b.roundOf=none)(K:BH P b.fn L n s v)(h:J.ok Q (G (c.finish v) cs) s):JL J Q b n L [] [] (c::cs) s:=λT Y=>by
 obtain⟨fn,Z,K⟩:=K
 refine Judge.DC (g':=G (EM b T [] []) (c::cs)) rfl (λw=>by simp [G,stepG,stepG.exec,fr,EM,U]) ?_
 exact Judge.leave O Z (K T Y) h
theorem BH.one{f:FuncId}{fn:Func}{s:St}{t:Tmp}{v:Value}(K:P.funcs[f]? =some fn)(O:fn.results= #[.tmp t])(h:look L t=some v):BH P f L n s v:=
 ⟨fn,K,λT U=>by
  have e:results fn T=Sem.pure v:=by
   have:=U.at_ t v h
   simp only [results,O,Array.mapM_eq_mapM_toList]
   show Sem.pure (T.getD t undef)=_
   rw [this]
  rw [e];exact⟨rfl,rfl⟩⟩
theorem BH.none{f:FuncId}{fn:Func}{s:St}(K:P.funcs[f]? =some fn)(O:fn.results= #[]):BH P f L n s (.tuple #[]):=
 ⟨fn,K,λT U=>by
  have e:results fn T=Sem.pure (.tuple #[]):=by
   simp only [results,O,Array.mapM_eq_mapM_toList]
   rfl
  rw [e];exact⟨rfl,rfl⟩⟩
def GG:Nat->Lv_->Env
 | _,[]=> []
 | i,v::vs=>(i,v)::GG (i+1) vs
theorem JV{i:Nat}{vs:Lv_}{t:Nat}{v:Value}(h:look (GG i vs) t=some v):i<=t/\vs[t - i]? =some v:=by
 induction vs generalizing i with
 | nil=>simp [GG,look] at h
 | cons u vs K=>
  simp only [GG,look] at h;split at h
  ·rename_i e;subst e;cases h;simp
  ·rename_i U;obtain⟨Y,O⟩:=K h;refine⟨by omega,?_⟩;have:t - i=(t - (i+1))+1:=by omega
   rw [this];simpa using O
end
def Bv(P:Program)(t:TypeId):Option Nat:=(P.info? t).map (·.size)
def Dc(P:Program)(t:TypeId):Option Bool:=match P.underlying t with | some (.struct _)=>some true | some (.array _ _)=>some true | some _=>some false | none=>none
def zeroOf(P:Program)(t:TypeId):Option Value:=(P.info? t).bind (·.zero)
theorem Fb{K:Nat}{Q:Nat->St->Prop}{X:Halt->St->Prop}(h:Bv P t=some K)(k:Q K s):lp P (Go.sizeOf t) s Q X:=by
 unfold Bv at h;simp only [Go.sizeOf,typeInfo,bind,Sem.bind,program,lp];cases hi:P.info? t with
 | none=>rw [hi] at h;cases h
 | some i=>rw [hi] at h;simp at h;subst h;exact k
theorem Hu{z:Value}{Q:Value->St->Prop}{X:Halt->St->Prop}(h:zeroOf P t=some z)(k:Q z s):lp P (zeroValue t) s Q X:=by
 unfold zeroOf at h;simp only [zeroValue,typeInfo,bind,Sem.bind,program,lp];cases hi:P.info? t with
 | none=>rw [hi] at h;cases h
 | some i=>
  rw [hi] at h;simp at h;show lp P (match i.zero with | some v=>pure v | none=>unsupported _) s Q X
  rw [h];exact k
theorem Mq{c:Bool}{Q:Bool->St->Prop}{X:Halt->St->Prop}(h:Dc P t=some c)(k:Q c s):lp P (isAgg t) s Q X:=by
 unfold Dc at h;simp only [isAgg,underlying,bind,Sem.bind,program,lp];cases hu:P.underlying t with
 | none=>rw [hu] at h;cases h
 | some u=>
  rw [hu] at h;cases u <;> simp at h <;> subst h <;> exact k
theorem Cx{u:TypeDesc}{Q:TypeDesc->St->Prop}{X:Halt->St->Prop}(h:P.underlying t=some u)(k:Q u s):lp P (underlying t) s Q X:=by
 simp only [underlying,bind,Sem.bind,program,lp,h];exact k
theorem TI{a:Addr}{v:Value}{Q:Value->St->Prop}{X:Halt->St->Prop}(h:s.cell? a=some v)(k:Q v s):lp P (load a) s Q X:=⟨V,v,h,k⟩
theorem Ra{a:Addr}{Q:Av_->St->Prop}{X:Halt->St->Prop}:∀(vs:Lv_) (i:Nat) (acc:Av_),(∀j v,vs[j]? =some v->s.cell? (a.add (i+j))=some v)->Q (acc++vs.toArray) s->lp P (loadCellsFrom a i vs.length acc) s Q X
 | [],i,acc,_,k=>by simpa [loadCellsFrom,lp,pure] using k
 | v::vs,i,acc,h,k=>by
  simp only [List.length_cons,loadCellsFrom]
  refine Az _ _ (TI (h 0 v V) ?_)
  refine Ra vs (i+1) (acc.push v) (λj u K=>?_) (by simpa using k)
  have:=h (j+1) u (by simpa using K)
  rwa [show i+1+j=i+(j+1) from by omega]
theorem Rn{a:Addr}{vs:Lv_}{m:Nat}{Q:Av_->St->Prop}{X:Halt->St->Prop}(hm:m=vs.length)(h:∀j v,vs[j]? =some v->s.cell? (a.add j)=some v)(k:Q vs.toArray s):lp P (loadCells a m) s Q X:=by
 subst hm;exact Ra vs 0 #[] (λj v K=>by simpa using h j v K) (by simpa using k)
theorem Rv{a:Addr}{v:Value}{Q:Value->St->Prop}{X:Halt->St->Prop}(ht:Dc P t=some false)(h:s.cell? a=some v)(k:Q v s):lp P (loadVar t a) s Q X:=by
 unfold loadVar;refine Az _ _ (Mq ht ?_);exact TI h k
theorem Rq{a:Addr}{vs:Lv_}{Q:Value->St->Prop}{X:Halt->St->Prop}(ht:Dc P t=some true)(K:Bv P t=some vs.length)(h:∀j v,vs[j]? =some v->s.cell? (a.add j)=some v)(k:Q (.agg vs.toArray) s):lp P (loadVar t a) s Q X:=by
 unfold loadVar;refine Az _ _ (Mq ht ?_);show lp P (do let r ← loadCells a (← Go.sizeOf t);pure (Value.agg r)) s Q X
 refine Az (x:=Go.sizeOf t) _ (Fb K ?_);refine Az _ _ (Rn V h ?_);exact k
variable {e:TypeId}
section
variable {x:Operand}{v:Value}{m:Int}
theorem FQ{o:Oper}{sm:Sem Value}(K:execOp ρ o=(do pure (Next.value (← sm))))(h:lp P sm s (λr s'=>r=v/\s'=s) (λ_ _=>False)):Yl P o ρ s v:=by
 unfold Yl;rw [K];exact Az _ _ (EH _ h (λr s' ⟨O,U⟩=>⟨by rw [O],U⟩) (λ_ _ h=>h))
theorem Yl.load{a:Addr}(ht:Dc P t=some false)(K:ρ x= .pointer (some a))(h:s.cell? a=some v):Yl P ⟨d,.load t x,ty,p,af,g⟩ ρ s v:=
 FQ (sm:=Instr.loadAt t (ρ x)) V (by rw [K];exact Rv ht h ⟨rfl,rfl⟩)
theorem FR{a:Addr}{vs:Lv_}(ht:Dc P t=some true)(K:Bv P t=some vs.length)(O:ρ x= .pointer (some a))(h:∀j v,vs[j]? =some v->s.cell? (a.add j)=some v):Yl P ⟨d,.load t x,ty,p,af,g⟩ ρ s (.agg vs.toArray):=
 FQ (sm:=Instr.loadAt t (ρ x)) V (by rw [O];exact Rq ht K h ⟨rfl,rfl⟩)
theorem Yl.fieldAddr{a:Addr}{O:Array Field}{i:Nat}{K:Field}{U:Nat}(ht:P.underlying t=some (.struct O))(hi:O[i]? =some K)(Y:Bv P K.type=some (U+1))(Z:ρ x= .pointer (some a)):
  Yl P ⟨d,.fieldAddr t x i,ty,p,af,g⟩ ρ s (.pointer (some (a.add K.offset))):=
 FQ (sm:=Instr.fieldAt t (ρ x) i) V (by
  rw [Z];unfold Instr.fieldAt
  refine Az _ _ (Cx ht ?_)
  simp only [hi,Instr.sureAddr,bind,Sem.bind,pure]
  refine Az (x:=fieldPlace a K) _ ?_
  unfold fieldPlace
  refine Az _ _ (Fb Y ?_)
  simp only [Nat.add_eq_zero_iff,Nat.succ_ne_self,and_false,if_false,lp,pure]
  exact⟨trivial,trivial⟩)
theorem No{a:Addr}{l c K:Nat}(ht:P.underlying t=some (.slice e))(O:Bv P e=some K)(U:ρ x= .slice (some a) l c)(Y:ρ y= .int kd m)(h:0<=m/\m<l):
  Yl P ⟨d,.indexAddr t x y,ty,p,af,g⟩ ρ s (.pointer (some (a.add (m.toNat*K)))):=
 FQ (sm:=Instr.indexAt t (ρ x) (ρ y)) V (by
  rw [U,Y];unfold Instr.indexAt
  simp only [asIntOf,bind,Sem.bind,pure]
  refine Az (x:=underlying t) _ (Cx ht ?_)
  simp only [Sem.bind]
  refine Az (x:=underlying t) _ (Cx ht ?_)
  simp only [Sem.bind,h,and_self,if_true]
  refine Az (x:=Go.sizeOf e) _ (Fb O ?_)
  exact⟨rfl,rfl⟩)
theorem R3{a:Addr}{l K:Nat}(ht:P.underlying t=some (.array l e))(O:Bv P e=some K)(U:ρ x= .pointer (some a))(Y:ρ y= .int kd m)(h:0<=m/\m<l):
  Yl P ⟨d,.indexAddr t x y,ty,p,af,g⟩ ρ s (.pointer (some (a.add (m.toNat*K)))):=
 FQ (sm:=Instr.indexAt t (ρ x) (ρ y)) V (by
  rw [U,Y];unfold Instr.indexAt
  simp only [asIntOf,bind,Sem.bind,pure]
  refine Az (x:=underlying t) _ (Cx ht ?_)
  simp only [Sem.bind,Instr.sureAddr,pure]
  refine Az (x:=underlying t) _ (Cx ht ?_)
  simp only [Sem.bind,h,and_self,if_true]
  refine Az (x:=Go.sizeOf e) _ (Fb O ?_)
  exact⟨rfl,rfl⟩)
end
variable {ops:Ao_}{rest:List Nat}
section
variable {b:Frame}{n:Nat}
variable {i:Nat}{x:Operand}{v:Value}
theorem Ip{cells:Av_}{Q:Addr->St->Prop}{X:Halt->St->Prop}(K:Nd E H B)(k:∀r,Nd E H (B++ [(r,.cells cells e (0,0))])->Q ⟨r,0,none⟩ (mk E H (B++ [(r,.cells cells e (0,0))]))):lp P (newRow e cells) (mk E H B) Q X:=by
 simp only [newRow,newObj,bind,Sem.bind,lp,pure];refine⟨V,λr O U=>?_⟩;obtain⟨Y,Z⟩:=KF O U (.cells cells e (0,0)) K;rw [Z];exact k r Y
theorem JL.alloc{z:Value}(K:ops[i]? =some ⟨d,.alloc e,ty,p,af,g⟩)(hw:AY L ops ⟨d,.alloc e,ty,p,af,g⟩=some true)(O:BY b n ⟨d,.alloc e,ty,p,af,g⟩=true)(U:Nd E H B)(Y:zeroOf P e=some z)
  (h:∀r,Nd E H (B++ [(r,.cells z.cells e (0,0))])->JL J Q b n (AB L d (.pointer (some ⟨r,0,none⟩))) ds (.inRegion ops rest::k) cs (mk E H (B++ [(r,.cells z.cells e (0,0))]))):
  JL J Q b n L ds (.inRegion ops (i::rest)::k) cs (mk E H B):=
 JL.op K hw O λρ _=>by
  show lp P (do pure (Next.value (← Instr.alloc e true (.tuple #[])))) _ _ _
  refine Az _ _ ?_
  unfold Instr.alloc
  refine Az _ _ (Hu Y ?_)
  refine Az _ _ (Ip U λr Z=>?_)
  exact h r Z
theorem JL.box(K:ops[i]? =some ⟨d,.box e x,ty,p,af,g⟩)(hw:AY L ops ⟨d,.box e x,ty,p,af,g⟩=some true)(O:BY b n ⟨d,.box e x,ty,p,af,g⟩=true)(U:Nd E H B)(Y:ev L x=some v)
  (h:∀r,Nd E H (B++ [(r,.cells v.cells e (0,0))])->JL J Q b n (AB L d (.pointer (some ⟨r,0,none⟩))) ds (.inRegion ops rest::k) cs (mk E H (B++ [(r,.cells v.cells e (0,0))]))):
  JL J Q b n L ds (.inRegion ops (i::rest)::k) cs (mk E H B):=
 JL.op K hw O λρ Z=>by
  show lp P (do pure (Next.value (← Instr.box e (ρ x)))) _ _ _
  rw [Z x v Y]
  refine Az _ _ ?_
  unfold Instr.box
  refine Az _ _ (Ip U λr ac=>?_)
  exact h r ac
def Be(c:Av_)(off:Nat):Lv_->Av_
 | []=>c
 | v::vs=>Be (c.setIfInBounds off v) (off+1) vs
theorem Mh(c:Av_)(off:Nat)(vs:Lv_):(Be c off vs).size=c.size:=by
 induction vs generalizing c off with
 | nil=>rfl
 | cons v vs K=>simp [Be,K]
theorem Nb{bk:Nat}{Q:Unit->St->Prop}{X:Halt->St->Prop}{pl off:Nat}{sp:Option Nat}:∀(vs:Lv_) (j:Nat) (c:Av_) (B:List (Nat×Obj)),(∀v∈vs,Dv v=true)->Nd E H B->B[pl]? =some (bk,.cells c e (0,0))->off+j+vs.length<=c.size->(sp=none∨0<j)->
  (∀B',B'=B.set pl (bk,.cells (Be c (off+j) vs) e (0,0))->Nd E H B'->Q () (mk E H B'))->lp P (storeCells ⟨bk,off,sp⟩ vs j) (mk E H B) Q X
 | [],j,c,B,_,O,K,_,_,k=>by
  simp only [storeCells,lp,pure]
  refine k B ?_ O
  simp only [Be]
  exact(List.ext_getElem? λi=>by
   by_cases hi:pl=i
   ·subst hi
    obtain⟨Z,ac⟩:=List.getElem?_eq_some_iff.1 K
    simp [Z,ac]
   ·simp [hi])
 | v::vs,j,c,B,U,O,K,hle,Y,k=>by
  simp only [storeCells,List.length_cons] at*
  have ag:off+j<c.size:=by omega
  have al:(Addr.add ⟨bk,off,sp⟩ j)=⟨bk,off+j,none⟩:=by
   unfold Addr.add;split
   ·rename_i am;subst am;rcases Y with rfl | Y
    ·rfl
    ·omega
   ·rfl
  have ap:(cellAt (.cells c e (0,0)) ⟨bk,off+j,none⟩).isSome=true:=by simp [cellAt,ag]
  refine Az (x:=store (Addr.add ⟨bk,off,sp⟩ j) v) _ ?_;rw [al];refine⟨V,U v (by simp),_,Jo O K,ap,by simp [frozenAt],?_⟩;simp only [lp];have aq:KM (.cells c e (0,0)) ⟨bk,off+j,none⟩ v= .cells (c.setIfInBounds (off+j) v) e (0,0):=by simp [KM]
  rw [aq,Zu O K];have av:(B.set pl (bk,.cells (c.setIfInBounds (off+j) v) e (0,0)))[pl]? =some (bk,.cells (c.setIfInBounds (off+j) v) e (0,0)):=by
   have:pl<B.length:=(List.getElem?_eq_some_iff.1 K).1;simp [this]
  refine Nb vs (j+1) _ _ (λu hu=>U u (List.mem_cons_of_mem _ hu)) (O.set K) av (by simp;omega) (.inr (by omega)) λaw e2 ay=>k aw ?_ ay;rw [e2,List.set_set];simp only [Be]
  rfl
theorem Rr{bk off pl:Nat}{c:Av_}{Q:Unit->St->Prop}{X:Halt->St->Prop}(K:Bv P t=some v.cells.size)(O:∀u∈v.cells.toList,Dv u=true)(U:Nd E H B)(Y:B[pl]? =some (bk,.cells c e (0,0)))(hle:off+v.cells.size<=c.size)
  (k:Nd E H (B.set pl (bk,.cells (Be c off v.cells.toList) e (0,0)))->Q () (mk E H (B.set pl (bk,.cells (Be c off v.cells.toList) e (0,0))))):lp P (storeVar t ⟨bk,off,none⟩ v) (mk E H B) Q X:=by
 unfold storeVar;refine Az _ _ (Fb K ?_);simp only [ne_eq,not_true_eq_false,if_false];refine Nb v.cells.toList 0 c B O U Y (by simpa using hle) (.inl V) λB' e Z=>?_;subst e;exact k Z
theorem JL.store{bk off:Nat}{c:Av_}(pl:Nat)(O:ops[i]? =some ⟨d,.store t x y,ty,p,af,g⟩)(hw:AY L ops ⟨d,.store t x y,ty,p,af,g⟩=some true)(U:BY b n ⟨d,.store t x y,ty,p,af,g⟩=true)(Y:Nd E H B)
  (Z:ev L x=some (.pointer (some ⟨bk,off,none⟩))) (ac:ev L y=some v) (ag:Bv P t=some v.cells.size) (al:∀u∈v.cells.toList,Dv u=true) (am:B[pl]? =some (bk,.cells c e (0,0))) (hle:off+v.cells.size<=c.size)
  (h:Nd E H (B.set pl (bk,.cells (Be c off v.cells.toList) e (0,0)))->JL J Q b n (AB L d undef) ds (.inRegion ops rest::k) cs (mk E H (B.set pl (bk,.cells (Be c off v.cells.toList) e (0,0))))):
  JL J Q b n L ds (.inRegion ops (i::rest)::k) cs (mk E H B):=
 JL.op O hw U λρ K=>by
  show lp P (do Instr.storeAt t (ρ x) (ρ y);pure Next.skip) _ _ _
  rw [K x _ Z,K y _ ac]
  refine Az _ _ ?_
  unfold Instr.storeAt
  simp only [Instr.sureAddr,bind,Sem.bind,pure]
  exact Rr ag al Y am hle λap=>h ap
end
def F0(P:Program)(t:TypeId):Option Nat:=(P.info? t).map (·.bytes)
section
variable {b:Frame}{n:Nat}
variable {i:Nat}{x:Operand}{v:Value}
theorem Kv{inf:TypeInfo}{Q:TypeInfo->St->Prop}{X:Halt->St->Prop}(h:P.info? t=some inf)(k:Q inf s):lp P (typeInfo t) s Q X:=by
 simp only [typeInfo,bind,Sem.bind,program,lp,h];exact k
theorem PG{K:Nat}(h:F0 P t=some K):∃inf,P.info? t=some inf/\inf.bytes=K:=by
 unfold F0 at h;cases hi:P.info? t with
 | none=>rw [hi] at h;cases h
 | some i=>rw [hi] at h;simp at h;exact⟨i,rfl,h⟩
theorem Jp{β:Type}{z y:Nat}{code:BoundsCode}{f:Nat->Sem β}{K:β->St->Prop}{X:Halt->St->Prop}(Y:z<=y)(O:lp P (f z) s K X):lp P (Instr.sliceBound (.int .i64 z) y code>>=f) s K X:=by
 refine Az _ _ ?_;unfold Instr.sliceBound;have U:(0:Int)<=(z:Int)/\(z:Int)<=(y:Int):=⟨by omega,by omega⟩;simp only [asIntOf,bind,Sem.bind,pure];rw [if_pos U];simpa [lp] using O
theorem Il{α β:Type}(a:α)(f:α->Sem β):((pure a:Sem α)>>=f)=f a:=rfl
theorem cz{l c:Nat}{X:Halt->St->Prop}:lp P (Instr.sliceBounds true l c none none none) s (λr s'=>r=(0,l,c)/\s'=s) X:=by
 unfold Instr.sliceBounds;exact⟨V,V⟩
theorem cV{l c:Nat}{lo:Nat}(K:lo<=l){X:Halt->St->Prop}:lp P (Instr.sliceBounds true l c (some (.int .i64 lo)) none none) s (λr s'=>r=(lo,l,c)/\s'=s) X:=by
 simp only [Instr.sliceBounds,if_true,Option.isSome_none,Option.isSome_some,Bool.false_eq_true,if_false,Il];exact Jp K ⟨V,V⟩
theorem bO{l c:Nat}{hi:Nat}(hh:hi<=c){X:Halt->St->Prop}:lp P (Instr.sliceBounds true l c none (some (.int .i64 hi)) none) s (λr s'=>r=(0,hi,c)/\s'=s) X:=by
 simp only [Instr.sliceBounds,if_true,Option.isSome_none,Option.isSome_some,Bool.false_eq_true,if_false,Il];exact Jp hh ⟨V,V⟩
theorem cT{l c:Nat}{lo hi:Nat}(hh:hi<=c)(K:lo<=hi){X:Halt->St->Prop}:lp P (Instr.sliceBounds true l c (some (.int .i64 lo)) (some (.int .i64 hi)) none) s (λr s'=>r=(lo,hi,c)/\s'=s) X:=by
 have e:Instr.sliceBounds true l c (some (.int .i64 lo)) (some (.int .i64 hi)) none=(Instr.sliceBound (.int .i64 hi) c .sliceAcap>>=λh=>Instr.sliceBound (.int .i64 lo) h .sliceB>>=λl=>pure (l,h,c)):=by
  simp [Instr.sliceBounds]
 rw [e];exact Jp hh (Jp K ⟨V,V⟩)
theorem cP{l c:Nat}{hi mx:Nat}(hm:mx<=c)(hh:hi<=mx){X:Halt->St->Prop}:lp P (Instr.sliceBounds true l c none (some (.int .i64 hi)) (some (.int .i64 mx))) s (λr s'=>r=(0,hi,mx)/\s'=s) X:=by
 simp only [Instr.sliceBounds,if_true,Option.isSome_none,Option.isSome_some,Bool.false_eq_true,if_false,Il];exact Jp hm (Jp hh ⟨V,V⟩)
theorem cr{l c:Nat}{lo hi mx:Nat}(hm:mx<=c)(hh:hi<=mx)(K:lo<=hi){X:Halt->St->Prop}:lp P (Instr.sliceBounds true l c (some (.int .i64 lo)) (some (.int .i64 hi)) (some (.int .i64 mx))) s (λr s'=>r=(lo,hi,mx)/\s'=s) X:=by
 simp only [Instr.sliceBounds,if_true,Option.isSome_none,Option.isSome_some,Bool.false_eq_true,if_false,Il];exact Jp hm (Jp hh (Jp K ⟨V,V⟩))
theorem Wk{l c lo hi mx:Nat}{Y Z ac:Option Value}{X:Halt->St->Prop}
  (O:match ac with | some w=>w= .int .i64 mx | none=>mx=c) (K:match Z with | some w=>w= .int .i64 hi | none=>hi=l/\ac=none) (U:match Y with | some w=>w= .int .i64 lo | none=>lo=0) (hm:mx<=c) (hh:hi<=mx) (ag:lo<=hi):
  lp P (Instr.sliceBounds true l c Y Z ac) s (λr s'=>r=(lo,hi,mx)/\s'=s) X:=by
 cases ac with
 | none=>
  cases Z with
  | none=>
   cases Y with
   | none=>obtain rfl:mx=c:=O;obtain rfl:hi=l:=K.1;obtain rfl:lo=0:=U;exact cz
   | some w=>obtain rfl:mx=c:=O;obtain rfl:hi=l:=K.1;obtain rfl:w= .int .i64 lo:=U;exact cV ag
  | some w=>
   cases Y with
   | none=>obtain rfl:mx=c:=O;obtain rfl:w= .int .i64 hi:=K;obtain rfl:lo=0:=U;exact bO hh
   | some w'=>obtain rfl:mx=c:=O;obtain rfl:w= .int .i64 hi:=K;obtain rfl:w'= .int .i64 lo:=U;exact cT hh ag
 | some w0=>
  cases Z with
  | none=>exact absurd K.2 (λh=>by cases h)
  | some w=>
   cases Y with
   | none=>obtain rfl:w0= .int .i64 mx:=O;obtain rfl:w= .int .i64 hi:=K;obtain rfl:lo=0:=U;exact cP hm hh
   | some w'=>obtain rfl:w0= .int .i64 mx:=O;obtain rfl:w= .int .i64 hi:=K;obtain rfl:w'= .int .i64 lo:=U;exact cr hm hh ag
theorem XA{a:Option Addr}{l c O lo hi mx:Nat}{U Y K:Option Value}{Q:Value->St->Prop}{X:Halt->St->Prop}(ht:P.underlying t=some (.slice e))(Z:Bv P e=some O)
  (ac:match K with | some w=>w= .int .i64 mx | none=>mx=c) (ag:match Y with | some w=>w= .int .i64 hi | none=>hi=l/\K=none) (al:match U with | some w=>w= .int .i64 lo | none=>lo=0) (hm:mx<=c) (hh:hi<=mx) (am:lo<=hi)
  (k:Q (.slice (if mx=lo then a else a.map (·.add (lo*O))) (hi - lo) (mx - lo)) s):lp P (Instr.slice t (.slice a l c) U Y K) s Q X:=by
 unfold Instr.slice;refine Az _ _ (Cx ht ?_);have hb:=Wk (P:=P) (s:=s) (X:=X) ac ag al hm hh am;refine Az _ _ (EH _ hb ?_ (λ_ _ h=>h));rintro r s' ⟨rfl,rfl⟩;exact Az _ _ (Fb Z k)
theorem Yl.slice{ρ:Operand->Value}{a:Option Addr}{l c O lo hi mx:Nat}{olo ohi omx:Option Operand}(ht:P.underlying t=some (.slice e))(U:Bv P e=some O)(Y:ρ x= .slice a l c)
  (Z:match omx with | some w=>ρ w= .int .i64 mx | none=>mx=c) (K:match ohi with | some w=>ρ w= .int .i64 hi | none=>hi=l/\omx=none) (ac:match olo with | some w=>ρ w= .int .i64 lo | none=>lo=0) (hm:mx<=c) (hh:hi<=mx) (ag:lo<=hi):
  Yl P ⟨d,.slice t x olo ohi omx,ty,p,af,g⟩ ρ s (.slice (if mx=lo then a else a.map (·.add (lo*O))) (hi - lo) (mx - lo)):=
 FQ (sm:=Instr.sliceAt t (ρ x) (olo.map ρ) (ohi.map ρ) (omx.map ρ)) V (by
  rw [Y];unfold Instr.sliceAt
  refine Az _ _ (Cx ht ?_)
  refine XA ht U (mx:=mx) (hi:=hi) (lo:=lo) ?_ ?_ ?_ hm hh ag ⟨rfl,rfl⟩
  ·cases omx <;> exact Z
  ·cases ohi with
   | none=>exact⟨K.1,by rw [K.2];rfl⟩
   | some w=>exact K
  ·cases olo <;> exact ac)
def H6(s:St)(v:Value)(K:Nat)(xs:Lv_):Prop:=
 match v with
 | .slice (some a) l c=>(a.spot=none∨l=0)/\xs.length=l*K/\l<=c/\∀j w,xs[j]? =some w->s.cell? ⟨a.block,a.off+j,none⟩=some w
 | .slice none l _=>l=0/\xs= []
 | _=>False
theorem El{a:Addr}(h:a.spot=none)(j:Nat):a.add j=⟨a.block,a.off+j,none⟩:=by
 unfold Addr.add;obtain⟨b,o,sp⟩:=a;simp only at h;subst h;split
 ·rename_i e;subst e;rfl
 ·rfl
theorem Ku{Y l:Nat}{xs:Lv_}{Q:Av_->St->Prop}{X:Halt->St->Prop}(Z:∃a c,v= .slice a l c)(h:H6 s v Y xs)(k:Q xs.toArray s):lp P (Builtin.firstCells Y l v) s Q X:=by
 obtain⟨a,c,rfl⟩:=Z;cases a with
 | none=>
  obtain⟨K,rfl⟩:=h;exact k
 | some a=>
  obtain⟨K,O,ag,ac⟩:=h;refine Rn O.symm (λj w U=>?_) k;rcases K with K | K
  ·rw [El K];exact ac j w U
  ·rw [K,Nat.zero_mul] at O;rw [List.eq_nil_of_length_eq_zero O] at U;cases U
theorem W2(nl:Nat):∀(r c:Nat),Builtin.growBy nl r c<=max c (2*nl+768):=by
 intro r
 induction r with
 | zero=>intro c;simp [Builtin.growBy];omega
 | succ r K=>
  intro c;simp only [Builtin.growBy];split
  ·omega
  ·rename_i h;have:=K (c+(c+768) / 4);omega
theorem Rx{need old:Nat}(h:old<need):Builtin.nextslicecap need old<=2*need+768:=by
 unfold Builtin.nextslicecap;split
 ·omega
 ·split
  ·omega
  ·have:=W2 need 4 old;omega
theorem Rb(z:Av_)(m:Nat):(Builtin.zeroCells z m).size=m*z.size:=by simp [Builtin.zeroCells]
def OI(B:List (Nat×Obj))(pl:Nat)(e:TypeId)(K:Nat)(a:Option Addr)(l c:Nat)(xs:Lv_):Prop:=
 (a=none/\l=0/\c=0/\xs= [])∨∃bk f,a=some ⟨bk,0,none⟩/\B[pl]? =some (bk,.cells f e (0,0))/\f.size=c*K/\l<=c/\xs=f.toList.take (l*K)
theorem Pk(c:Av_)(off:Nat)(vs:Lv_)(h:off+vs.length<=c.size):(Be c off vs).toList.take (off+vs.length)=c.toList.take off++vs:=by
 induction vs generalizing c off with
 | nil=>simp [Be]
 | cons v vs O=>
  simp only [Be,List.length_cons] at*;have:=O (c.setIfInBounds off v) (off+1) (by simp;omega);rw [show off+(vs.length+1)=off+1+vs.length from by omega,this];have K:off<c.toList.length:=by simp;omega
  rw [Array.toList_setIfInBounds,List.take_add_one];have U:(c.toList.set off v)[off]? =some v:=by simp at K;simp [K]
  rw [U];simp [List.take_set_of_le]
theorem PK{ats:Array TypeId}{a:Option Addr}{l c K Y m cx:Nat}{ax:Option Addr}{xs ys:Lv_}{z:Value}{Q:Value->St->Prop}{X:Halt->St->Prop}{pl:Nat}
  (a6:ats[0]? =some t) {t1 a7:TypeId} (a8:ats[1]? =some t1) (a9:P.underlying t1=some (.slice a7)) (ht:P.underlying t=some (.slice e)) (bb:Bv P e=some K) (hb:F0 P e=some Y) (be:zeroOf P e=some z) (bi:z.cells.size=K)
  (aq:Nd E H B) (hs:OI B pl e K a l c xs)
  (am:H6 (mk E H B) (.slice ax m cx) K ys) (bn:∀w∈ys,Dv w=true) (b5:0<Y) (b6:l+m<=2 ^ 40) (bo:Y<=64)
  (bv:∀bk f O,a=some ⟨bk,0,none⟩->B[pl]? =some (bk,.cells f e (0,0))->O=Be f (l*K) ys->l+m<=c->O.size=c*K->O.toList.take ((l+m)*K)=xs++ys->Nd E H (B.set pl (bk,.cells O e (0,0)))->Q (.slice a (l+m) c) (mk E H (B.set pl (bk,.cells O e (0,0)))))
  (bw:a=none->m=0->Q (.slice none 0 0) (mk E H B))
  (bx:∀r O Z,l+m<=Z->O.size=Z*K->O.toList.take ((l+m)*K)=xs++ys->Nd E H (B++ [(r,.cells O e (0,0))])->Q (.slice (some ⟨r,0,none⟩) (l+m) Z) (mk E H (B++ [(r,.cells O e (0,0))]))):
  lp P (Builtin.append_ ats ty #[.slice a l c,.slice ax m cx]) (mk E H B) Q X:=by
 unfold Builtin.append_;simp only [a6,a8,List.getElem?_toArray,List.getElem?_cons_zero,List.getElem?_cons_succ];refine Az _ _ (Cx ht ?_);refine Az _ _ (Fb bb ?_);refine Az _ _ (Cx a9 ?_);simp only [Il,Bool.false_eq_true,if_false,Builtin.lenOf,Bool.not_false,if_true];have ac:ys.length=m*K:=by
  cases ax with
  | none=>obtain⟨av,aw⟩:=am;subst av aw;simp
  | some ad=>exact am.2.1
 have ay:∃(bz:Option Addr) (Z:Nat),H6 (mk E H B) (.slice a l c) K xs/\bz=a/\Z=c:=by
  refine⟨a,c,?_,V,V⟩;rcases hs with⟨rfl,rfl,rfl,rfl⟩ | ⟨bk,f,rfl,ag,U,al,rfl⟩
  ·exact⟨V,V⟩
  ·have hle:l*K<=f.size:=by rw [U];exact Nat.mul_le_mul_right _ al
   refine⟨.inl V,by simp [Nat.min_eq_left hle],al,λj w ap=>?_⟩;refine SH aq ag ?_;simp only [Nat.zero_add];rw [List.getElem?_take] at ap;split at ap
   ·simpa using ap
   ·cases ap
 obtain⟨_,_,ay,_,_⟩:=ay;have az:xs.length=l*K:=by
  rcases hs with⟨rfl,rfl,rfl,rfl⟩ | ⟨bk,f,rfl,ag,U,al,rfl⟩
  ·simp
  ·have hle:l*K<=f.size:=by rw [U];exact Nat.mul_le_mul_right _ al
   simp [Nat.min_eq_left hle]
 split
 ·rename_i a4;refine Az _ _ (Ku ⟨ax,cx,V⟩ am ?_);rcases hs with⟨rfl,rfl,rfl,rfl⟩ | ⟨bk,f,rfl,ag,U,al,rfl⟩
  ·obtain rfl:m=0:=by omega
   simp only;exact bw V V
  ·simp only;have hle:l*K+ys.length<=f.size:=by rw [ac,U,← Nat.add_mul];exact Nat.mul_le_mul_right _ a4
   have b0:(Addr.add ⟨bk,0,none⟩ (l*K))=⟨bk,l*K,none⟩:=by rw [El rfl];simp
   rw [b0];refine Az _ _ (Nb (pl:=pl) ys.toArray.toList 0 f B (by simpa using bn) aq ag (by simpa using hle) (.inl V) λB' a5 a0=>?_);simp only [Nat.add_zero] at a5;subst a5;refine bv bk f _ V ag V a4 (by rw [Mh,U]) ?_ a0;have:=Pk f (l*K) ys hle;rw [ac,← Nat.add_mul] at this;exact this
 ·rename_i ca;have av:¬(((l+m:Nat):Int)>IntKind.i64.max/\(False∨Y=0)):=by rintro⟨_,h | h⟩ <;> omega
  have aw:¬(Builtin.nextslicecap (l+m) c*Y>2 ^ 48):=by
   have:=Rx (need:=l+m) (old:=c) (by omega);have cc:Builtin.nextslicecap (l+m) c*Y<=(2*(l+m)+768)*64:=Nat.mul_le_mul this bo;omega
  obtain⟨inf,a1,a2⟩:=PG hb;refine Az _ _ (Kv a1 ?_);rw [a2,if_neg av];refine Az _ _ (Kv a1 ?_);rw [a2,if_neg aw];refine Az _ _ ?_;simp only [choose,lp,Question.forced,Bool.false_eq_true,if_false];refine⟨V,λb1=>?_⟩;generalize b2:(Question.appendCap (l+m) c e).cut b1=a3;have b3:l+m<=a3:=by rw [← b2];simp [Question.cut]
  refine Az _ _ (Kv a1 ?_);rw [a2];have b4:∀{α:Type} {f:Unit->Sem α} {Q:α->St->Prop},lp P (f ()) (mk E H B) Q X->lp P (askRoom (a3*Y)>>=f) (mk E H B) Q X:=by
   intro α f Q U;refine Az _ _ ?_;unfold askRoom;split
   ·exact⟨.inl ⟨V,V⟩,U⟩
   ·exact U
  refine b4 (Az _ _ (Ku ⟨a,c,V⟩ ay ?_));refine Az _ _ (Ku ⟨ax,cx,V⟩ am ?_);refine Az _ _ (Hu be ?_);refine Az _ _ (Ip aq λr a0=>?_);refine bx r _ a3 b3 ?_ ?_ a0
  ·simp only [Array.size_append,List.size_toArray,Rb,bi,az,ac];rw [← Nat.add_mul,← Nat.add_mul];congr 1;omega
  ·simp only [Array.toList_append];rw [List.take_append_of_le_length (by simp [az,ac,Nat.add_mul])];rw [List.take_of_length_le (by simp [az,ac,Nat.add_mul])]
end
theorem OS{P:Program}{α:Type}(x:Sem α):∀{s:St} {Q:α->St->Prop} {X:Halt->St->Prop},lp P x s Q X->lp P x s (λa s'=>Q a s'/\s'.E=s.E/\s'.q=s.q) X:=by
 induction x with
 | pure a=>intro s Q X h;exact⟨h,rfl,rfl⟩
 | load m a k K=>intro s Q X h;obtain⟨O,v,U,Y⟩:=h;exact⟨O,v,U,K _ Y⟩
 | store m a v k K=>intro s Q X h;obtain⟨O,U,o,Y,ac,ag,al⟩:=h;exact⟨O,U,o,Y,ac,ag,K al⟩
 | new o k K=>intro s Q X h;exact⟨h.1,λr O U=>K _ (h.2 r O U)⟩
 | shape r k K=>intro s Q X h;obtain⟨o,O,U⟩:=h;exact⟨o,O,K _ U⟩
 | freeze a n k K=>intro s Q X h;exact h
 | frozen a k K=>intro s Q X h;obtain⟨o,O,U⟩:=h;exact⟨o,O,K _ U⟩
 | getObj r k K=>intro s Q X h;obtain⟨o,O,U,Y⟩:=h;exact⟨o,O,U,K _ Y⟩
 | setObj r o k K=>intro s Q X h;obtain⟨O,U,Y⟩:=h;exact⟨O,U,K Y⟩
 | choose q k K=>
  intro s Q X h;simp only [lp] at h ⊢;split
  ·rename_i Z;rw [if_pos Z] at h;exact K _ h
  ·rename_i Z;rw [if_neg Z] at h;exact⟨h.1,λt=>K _ (h.2 t)⟩
 | sys c k K=>intro s Q X h;exact h
 | program k K=>intro s Q X h;exact K _ h
 | mark m k K=>intro s Q X h;exact⟨h.1,K h.2⟩
 | halt h=>intro s Q X h;exact h
def BE(D:Nat->Bool)(s:St):St:=⟨λb=>if D b then s.get b else s.E b,λb=>if D b then none else s.H b,s.q⟩
def CH(D:Nat->Bool)(s s':St):St:=⟨λb=>if D b then s.E b else s'.E b,λb=>if D b then s.H b else s'.H b,s'.q⟩
theorem Lb(D:Nat->Bool)(s:St):CH D s (BE D s)=s:=by
 obtain⟨E,H,q⟩:=s;unfold CH BE;congr 1
 ·funext b;by_cases h:D b <;> simp [h]
 ·funext b;by_cases h:D b <;> simp [h]
theorem Xg{D:Nat->Bool}{s:St}{w:World}(f:Fits s w):Fits (BE D s) w where
 e b o h:=by
  by_cases hd:D b
  ·simp [BE,hd] at h;exact f.get h
  ·simp [BE,hd] at h;exact f.e b o h
 h b o h:=by
  by_cases hd:D b
  ·simp [BE,hd] at h
  ·simp [BE,hd] at h;exact f.h b o h
 d b h:=by
  by_cases hd:D b
  ·simp [BE,hd]
  ·simp [BE,hd] at h ⊢;exact f.d b h
def Fa{P:Program}(J:Judge P)(f:FuncId)(args:Av_)(s:St)(R:Value->St->Prop):Prop:=
 ∀(Q:Gs_) (c:Frame) (cs:Lf_),(∀v s',R v s'->J.ok Q (G (c.finish v) cs) s')->J.ok Q (G (Frame.enter P f args .normal) (c::cs)) s
theorem Fa.M{P:Program}{J:Judge P}{f:FuncId}{args:Av_}{s:St}{R K:Value->St->Prop}(h:Fa J f args s R)(O:∀v s',R v s'->K v s'):Fa J f args s K:=
 λQ c cs U=>h Q c cs λv s' Y=>U v s' (O v s' Y)
section
variable {b:Frame}{n:Nat}
theorem Judge.Ts(D:Nat->Bool){T:Av_}{ops:Ao_}{i:Nat}{rest:List Nat}{o:Oper}(Y:ops[i]? =some o)(hw:Region.wanted o (yielded ops T)=true)(a5:b.kind≠ .early)
  (hd:∀c,o.op≠ .defer c) (a6:s.q=false)
  (h:lp P (execOp (BK T) o) (BE D s) (λap s'=>upon J Q b T ds ops i rest k cs o.dst ap (CH D s s')) (λ_ _=>False)):
  J.ok Q (G (fr b T ds (.inRegion ops (i::rest)::k)) cs) s:=by
 refine J.step ⟨V,λw f=>?_,λe=>by subst e;cases a6⟩;have Z:((fr b T ds (.inRegion ops (i::rest)::k)).kind==CallKind.early)=false:=by simpa [fr] using a5
 have a7:stepG P J.main (G (fr b T ds (.inRegion ops (i::rest)::k)) cs) w=stepG.apply P true (fr b T ds (.inRegion ops (i::rest)::k)) cs none (execOp (BK T) o) w:=by
  rw [stepG_op Y hw];split
  ·rename_i l c bo e2;exact absurd e2 (hd c)
  ·rfl
 obtain⟨ac,aq,av,a8,O⟩:=Nr _ (OS _ h) (Xg (D:=D) f);have aw:=Qc (P:=P) (fn:=b.fn) a8;have a1:=λv=>GV (b:=b) (ds:=ds) (k:=k) T ops i rest v o Y;have key:∀w',Fits ac w'->Fr (BE D s) w ac w'->ac.E=(BE D s).E->Fits (CH D s ac) w'/\Fr s w (CH D s ac) w':=by
  intro w' ay g2 a9;have a2:∀b,D b=true->b<w.heap.size->w'.heap[b]? =w.heap[b]? :=λb hb az=>g2.keep b az (by simp [BE,hb]);have a3:∀b o,(s.H b=some o∨s.E b=some o)->b<w.heap.size:=λb o Y=>by
   have:=Y.elim (f.h b o) (f.e b o);rcases Nat.lt_or_ge b w.heap.size with a0 | a0
   ·exact a0
   ·simp [Array.getElem?_eq_none a0] at this
  refine⟨⟨λb o hb=>?_,λb o hb=>?_,λb hb=>?_⟩,⟨g2.size,λb az hb=>?_,λb hb=>?_,λb o hb=>?_,λb hb=>?_,g2.tape,g2.os,g2.output⟩⟩
  ·by_cases K:D b
   ·simp [CH,K] at hb;rw [a2 b K (a3 b o (.inr hb))];exact f.e b o hb
   ·simp [CH,K] at hb;exact ay.e b o hb
  ·by_cases K:D b
   ·simp [CH,K] at hb;rw [a2 b K (a3 b o (.inl hb))];exact f.h b o hb
   ·simp [CH,K] at hb;exact ay.h b o hb
  ·by_cases K:D b
   ·simp [CH,K] at hb ⊢;exact f.d b hb
   ·simp [CH,K] at hb ⊢;exact ay.d b hb
  ·exact g2.keep b az (by by_cases K:D b <;> simp [BE,K,hb])
  ·by_cases K:D b
   ·simp [CH,K] at hb;exact .inl hb
   ·simp [CH,K] at hb;rcases g2.own b hb with q | q
    ·left;simpa [BE,K] using q
    ·exact .inr q
  ·by_cases K:D b
   ·simp [CH,K];exact hb
   ·simp only [CH,K,Bool.false_eq_true,if_false];rw [a9];simp [BE,K,hb]
  ·by_cases K:D b
   ·simp [CH,K] at hb;exact .inl hb
   ·simp [CH,K] at hb;rcases g2.Fi b hb with q | q | q
    ·left;simpa [BE,K] using q
    ·right;left;simpa [BE,K] using q
    ·exact .inr (.inr q)
 have bb:∀w',(∀e∈seen P b.fn ((execOp (BK T) o).events P w #[]),Ev (BE D s) w w' e)->∀e∈seen P b.fn ((execOp (BK T) o).events P w #[]),Ev s w w' e:=by
  intro w' he e hm;have:=he e hm;have a4:∀{b wr},Hb (BE D s) w w' b wr->Hb s w w' b wr:=by
   intro b wr ht;refine⟨ht.1,?_⟩;rcases ht.2 with q | q | ⟨q,q'⟩
   ·left;by_cases K:D b <;> simp [BE,K] at q;exact q
   ·exact .inr (.inl q)
   ·by_cases K:D b
    ·simp [BE,K,St.get] at q;by_cases am:s.E b=none
     ·left;intro be;rw [am,be] at q;exact q V
     ·exact .inr (.inr ⟨am,q'⟩)
    ·simp [BE,K] at q;exact .inr (.inr ⟨q,q'⟩)
  unfold Ev at this ⊢;split <;> rename_i bi <;> simp only [bi] at this
  ·exact⟨this.1,a4 this.2⟩
  ·exact⟨this.1,a4 this.2⟩
  ·trivial
  ·trivial
 rw [a7];cases U:(execOp (BK T) o).run P w with
 | ok ap w'=>
  rw [U] at aq av O aw;simp only [KR] at aq av aw;obtain⟨O,am,_⟩:=O;obtain⟨k1,ag⟩:=key w' aq av am;have al:=bb w' aw;cases ap with
  | value v=>exact⟨_,_,w',seen P b.fn ((execOp (BK T) o).events P w #[])++ #[],by simp [stepG.apply,U,Z,GStep.after,G,a1,Gr],O,k1,ag,by simpa using al⟩
  | skip=>exact⟨_,_,w',seen P b.fn ((execOp (BK T) o).events P w #[])++ #[],by simp [stepG.apply,U,Z,GStep.after,G,a1,Gr],O,k1,ag,by simpa using al⟩
  | enter g args=>exact⟨_,_,w',seen P b.fn ((execOp (BK T) o).events P w #[])++ #[],by simp [stepG.apply,U,Z,GStep.after,G,Gr,Iu],O,k1,ag,by simpa using al⟩
  | round l g tm as bv=>exact⟨_,_,w',seen P b.fn ((execOp (BK T) o).events P w #[])++ #[],by simp [stepG.apply,U,Z,GStep.after,G,Gr,Iu],O,k1,ag,by simpa using al⟩
  | defer d=>
   have bn:=GV (b:=b) (ds:=d::ds) (k:=k) T ops i rest undef o Y;exact⟨_,_,w',seen P b.fn ((execOp (BK T) o).events P w #[])++ #[],by
    rw [← bn];simp [stepG.apply,U,Z,GStep.after,G,Gr,Iu];rfl,O,k1,ag,by simpa using al⟩
  | _=>exact O.elim
 | halt x w'=>rw [U] at O;exact O.elim
end
def QS(m:Nat)(listed:Array Bool):Bool:=(List.range m).all λi=>listed.getD i false
def Bi(listed:Array Bool)(i:Nat):Array Bool:=listed.setIfInBounds i true
section
variable (J:Judge P)(Q:Gs_)(b:Frame)(ds:Ld_)(ops:Ao_)(k:Li_)(cs:Lf_)(m:Nat)(D:Nat->Bool)
def JA:Nat->Array Bool->Av_->St->Prop
 | 0,listed,T,s=>Region.ready .any ops listed= []/\J.ok Q (G (fr b T ds (.inRegion ops []::k)) cs) s
 | fuel+1,listed,T,s=>
  (QS m listed=true/\∀t,J.ok Q (G (fr b T ds (.inRegion ops (Region.linearise.go .any ops (fuel+1) t listed [])::k)) cs) s)∨
  (Region.ready .any ops listed≠ []/\s.q=false/\∀i∈Region.ready .any ops listed,∀o,ops[i]? =some o->(∀c,o.op≠ .defer c)/\
   (Region.wanted o (yielded ops T)=false->JA fuel (Bi listed i) (C7 T o.dst undef) s)/\
   (Region.wanted o (yielded ops T)=true->lp P (execOp (BK T) o) (BE D s) (λO s'=>match O with
    | .value v=>JA fuel (Bi listed i) (C7 T o.dst v) (CH D s s')
    | .skip=>JA fuel (Bi listed i) (C7 T o.dst undef) (CH D s s')
    | .enter f args=>∃R,Fa J f args (CH D s s') R/\∀v K,R v K->K.q=false/\(∀x o,(BE D s).E x=some o->(BE D K).E x=some o)/\JA fuel (Bi listed i) (C7 T o.dst v) K
    | _=>False) (λ_ _=>False)))
variable {J Q b ds ops k cs m D}
theorem XI(Z:b.kind≠ .early):∀(fuel t:Nat) (listed:Array Bool) (T:Av_) (s:St),JA J Q b ds ops k cs m D fuel listed T s->
  J.ok Q (G (fr b T ds (.inRegion ops (Region.linearise.go .any ops fuel t listed [])::k)) cs) s:=by
 intro fuel
 induction fuel with
 | zero=>intro t listed T s h;simpa [Region.linearise.go] using h.2
 | succ fuel K=>
  intro t listed T s h;rcases h with⟨_,h⟩ | ⟨ac,ag,h⟩
  ·exact h t
  ·obtain⟨i,hi⟩:∃i,(Region.ready .any ops listed)[t % (Region.ready .any ops listed).length]? =some i:=by
    have:0<(Region.ready .any ops listed).length:=List.length_pos_iff.2 ac;exact⟨_,List.getElem?_eq_getElem (Nat.mod_lt _ this)⟩
   have Y:=List.mem_of_getElem? hi;have hgo:Region.linearise.go .any ops (fuel+1) t listed []=i::Region.linearise.go .any ops fuel (t / (Region.ready .any ops listed).length) (Bi listed i) []:=by
    simp only [Region.linearise.go];change (match(Region.ready .any ops listed)[t % (Region.ready .any ops listed).length]? with
     | some i=>Region.linearise.go .any ops fuel (t / (Region.ready .any ops listed).length) (listed.setIfInBounds i true) [i]
     | none=> [].reverse)=_
    rw [hi];simp only;rw [linearise_go_acc];rfl
   rw [hgo];obtain⟨_,o,O,_⟩:=mem_ready.1 Y;obtain⟨hd,al,am⟩:=h i Y o O;cases hw:Region.wanted o (yielded ops T) with
   | false=>exact Judge.unwanted O hw (K _ _ _ _ (al hw))
   | true=>
    refine Judge.Ts D O hw Z hd ag (EH _ (am hw) ?_ (λ_ _ h=>h));intro ap s' U;cases ap with
    | value v=>exact K _ _ _ _ U
    | skip=>exact K _ _ _ _ U
    | enter f args=>
     obtain⟨R,aq,av⟩:=U;refine aq Q _ cs λv aw ay=>?_;rw [GV _ _ _ _ _ _ O];exact K _ _ _ _ (av v aw ay).2.2
    | _=>exact U.elim
theorem Yx{T:Av_}{d:Option Tmp}{v:Value}{x:Operand}(h:∀t,d=some t->x≠ .tmp t):BK (C7 T d v) x=BK T x:=by
 cases d with
 | none=>rfl
 | some t=>
  cases x with
  | tmp u=>
   have K:t≠u:=λe=>h t rfl (e▸rfl);simp only [C7,BK,Array.getD_eq_getD_getElem?,Array.getElem?_setIfInBounds_ne K]
  | _=>rfl
theorem Io{T:Av_}{d:Option Tmp}{v:Value}{o:Oper}(hs:∀cs b,o.op≠ .select cs b)(h:∀t,d=some t->t ∉ o.looksAt ops):
  execOp (BK (C7 T d v)) o=execOp (BK T) o/\Region.wanted o (yielded ops (C7 T d v))=Region.wanted o (yielded ops T):=by
 refine⟨execOp_congr o hs λx K=>Yx λt ht O=>h t ht ?_,?_⟩
 ·subst O;exact List.mem_append_left _ (List.mem_filterMap.2 ⟨.tmp t,by simpa using K,V⟩)
 ·have:=wanted_put (ops:=ops) o (⟨T,[]⟩:Act) d v h
  rwa [act_put'] at this
 where
  act_put' {T : Av_} {d : Option Tmp} {v : Value} : (⟨T, []⟩ : Act).put d v = ⟨C7 T d v, []⟩ := by cases d <;> rfl
theorem Jk{T:Av_}{d e:Option Tmp}{v u:Value}(h:∀t,d=some t->e≠some t):C7 (C7 T d v) e u=C7 (C7 T e u) d v:=by
 cases d with
 | none=>rfl
 | some t=>
  cases e with
  | none=>rfl
  | some K=>
   have O:t≠K:=λq=>h t rfl (q▸rfl);simp [C7,Array.setIfInBounds_comm _ _ O]
theorem Ro{D:Nat->Bool}{s s':St}(K:s'.E=(BE D s).E):(BE D (CH D s s')).E=(BE D s).E:=by
 funext x;by_cases h:D x
 ·simp [BE,CH,h,St.get]
 ·have:=congrFun K x;simp [BE,h] at this;simp [BE,CH,h,this]
def IZ(ops:Ao_)(listed:Array Bool)(i:Nat)(oi:Oper):Bool:=
 (List.range ops.size).all λj=>j==i || listed.getD j true || match ops[j]? with
  | some K=>(K.after.any λe=>Region.binds .any e&&e.on==i) || oi.apart ops K
  | none=>true
def waits(ops:Ao_):Nat->Nat->Nat->Bool
 | 0,_,_=>false
 | f+1,j,i=>match ops[j]? with
  | some K=>K.after.any λe=>Region.binds .any e&&(e.on==i || waits ops f e.on i)
  | none=>true
def EB(ops:Ao_)(m:Nat):Bool:=
 (List.range ops.size).all λj=>decide (j<m) || (List.range m).all λi=>waits ops ops.size j i
def HZ(ops:Ao_)(listed:Array Bool):Bool:=
 (List.range ops.size).all λj=> !listed.getD j false || match ops[j]? with
  | some K=>K.after.all λe=> !Region.binds .any e || listed.getD e.on false
  | none=>true
theorem Pl{listed:Array Bool}(h:HZ ops listed=true){j:Nat}{K:Oper}(O:ops[j]? =some K)(U:listed.getD j false=true):∀e∈K.after,Region.binds .any e=true->listed.getD e.on false=true:=by
 intro e he hb;have:=List.all_eq_true.1 h j (List.mem_range.2 (Array.getElem?_eq_some_iff.1 O).1);rw [U,O] at this;simp only [Bool.not_true,Bool.false_or] at this;have:=Array.all_eq_true'.1 this e he;rw [hb] at this;simpa using this
theorem Re{listed:Array Bool}(Z:HZ ops listed=true){i:Nat}:∀(f j:Nat) (O:Oper),ops[j]? =some O->(∀e∈O.after,Region.binds .any e=true->listed.getD e.on false=true)->waits ops f j i=true->listed.getD i false=true∨∃x,ops[x]? =none/\listed.getD x false=true:=by
 intro f
 induction f with
 | zero=>intro j O _ _ h;cases h
 | succ f ac=>
  intro j O ag hd h;simp only [waits,ag] at h;obtain⟨e,he,K⟩:=Array.any_eq_true'.1 h;simp only [Bool.and_eq_true,Bool.or_eq_true,beq_iff_eq] at K;obtain⟨hb,K⟩:=K;have U:=hd e he hb;rcases K with rfl | K
  ·exact .inl U
  ·cases Y:ops[e.on]? with
   | none=>exact .inr ⟨_,Y,U⟩
   | some o=>exact ac e.on o Y (λal am ap=>Pl Z Y U al am ap) K
theorem JA.take{i:Nat}{oi:Oper}{w:Bool}{v:Value}(hi:ops[i]? =some oi)(cp:i<m)(ct:EB ops m=true)(cw:Region.noSelect ops=true)(cy:∀c,oi.op≠ .defer c):
  ∀(fuel:Nat) (listed:Array Bool) (T:Av_) (s:St),IZ ops listed i oi=true->HZ ops listed=true->listed.size=ops.size->i∈Region.ready .any ops listed->s.q=false->Region.wanted oi (yielded ops T)=w->
   (w=true->∀s',s'.q=false->(∀x o,(BE D s).E x=some o->s'.E x=some o)->Yl P oi (BK T) s' v)->
   JA J Q b ds ops k cs m D fuel (Bi listed i) (C7 T oi.dst (if w then v else undef)) s->JA J Q b ds ops k cs m D (fuel+1) listed T s:=by
 have av:∀(j:Nat) (ag:Oper),ops[j]? =some ag->∀cs b,ag.op≠Op.select cs b:=λj ag h cs b=>Region.noSelect_spec cw j ag cs b h;intro fuel
 induction fuel with
 | zero=>?_
 | succ fuel a2=>?_
 all_goals
  intro listed T s b1 b2 aw a3 a4 hw ay h;refine .inr ⟨λe=>(by rw [e] at a3;cases a3),a4,λj b3 ag O=>?_⟩;by_cases aq:j=i
  ·subst aq;obtain rfl:ag=oi:=by rw [hi] at O;exact(Option.some.inj O).symm
   refine⟨cy,λbi=>?_,λbn=>?_⟩
   ·rw [bi] at hw;subst hw;exact h
   ·rw [bn] at hw;subst hw;refine EH _ (ay V (BE D s) a4 λ_ _ h=>h).out ?_ (λ_ _ h=>h);rintro b4 s' ⟨rfl,rfl⟩;rw [Lb];exact h
  ·
   have b5:j∈Region.ready .any ops (Bi listed i):=ready_mono b3 aq;obtain⟨al,U,b6,bo⟩:=mem_ready.1 b3;obtain rfl:U=ag:=by rw [O] at b6;exact(Option.some.inj b6).symm
   have bv:=(mem_ready.1 a3).1;have c0:(U.after.any λe=>Region.binds .any e&&e.on==i)=false:=by
    rw [Array.any_eq_false];intro e he K;simp only [Bool.and_eq_true,beq_iff_eq] at K;have:=bo _ (Array.getElem_mem he) K.1;rw [K.2] at this;have Y:listed.getD i true=listed.getD i false∨listed.size<=i:=by
     rcases Nat.lt_or_ge i listed.size with q | q
     ·left;simp [Array.getD_eq_getD_getElem?,q]
     ·exact .inr q
    rcases Y with Y | Y
    ·rw [bv,this] at Y;cases Y
    ·rw [Array.getD_eq_getD_getElem?,Array.getElem?_eq_none Y] at this;simp at this
   have c1:oi.apart ops U=true:=by
    have az:j<ops.size:=(Array.getElem?_eq_some_iff.1 O).1;have:=List.all_eq_true.1 b1 j (List.mem_range.2 az);simp only [Bool.or_eq_true,beq_iff_eq] at this;rcases this with(q | q) | q
    ·exact absurd q aq
    ·rw [al] at q;cases q
    ·rw [O] at q;simp only [Bool.or_eq_true] at q;rw [c0] at q;exact q.resolve_left (by simp)
   obtain⟨a1,a5,a6⟩:=Oper.apart_spec c1;obtain⟨p1,p2⟩:=Io (ops:=ops) (T:=T) (v:=if w then v else undef) (av j U O) a1
   first
    | exact absurd b5 (by rw [h.1];simp)
    | (
     rcases h with⟨c2,_⟩ | ⟨dL,_,h⟩
     ·
      exfalso
      have c3:¬j<m:=by
       intro az
       have:=List.all_eq_true.1 c2 j (List.mem_range.2 az)
       have e2:(Bi listed i).getD j false=listed.getD j false:=getD_set_ne false (Ne.symm aq)
       rw [e2] at this
       have Y:listed.getD j true=true:=by
        rcases Nat.lt_or_ge j listed.size with q | q
        ·simp [Array.getD_eq_getD_getElem?,q] at this ⊢;exact this
        ·simp [Array.getD_eq_getD_getElem?,Array.getElem?_eq_none q] at this
       rw [al] at Y;cases Y
      have az:j<ops.size:=(Array.getElem?_eq_some_iff.1 O).1
      have:=List.all_eq_true.1 ct j (List.mem_range.2 az)
      simp only [Bool.or_eq_true,decide_eq_true_eq] at this
      have:=List.all_eq_true.1 (this.resolve_left c3) i (List.mem_range.2 cp)
      rcases Re b2 _ j U O (λe he hb=>bo e he hb) this with q | ⟨x,Z,ac⟩
      ·have c4:i<listed.size:=by rw [aw];exact(Array.getElem?_eq_some_iff.1 hi).1
       simp [Array.getD_eq_getD_getElem?,c4] at q bv
       rw [bv] at q;cases q
      ·have:¬x<listed.size:=by rw [aw];intro K;simp [K] at Z
       simp [Array.getD_eq_getD_getElem?,this] at ac
     ·obtain⟨hd,bi,bn⟩:=h j b5 U O
      have a7:Bi (Bi listed i) j=Bi (Bi listed j) i:=by
       unfold Bi;exact Array.setIfInBounds_comm _ _ (Ne.symm aq)
      have a8:i∈Region.ready .any ops (Bi listed j):=ready_mono a3 (Ne.symm aq)
      have a9:IZ ops (Bi listed j) i oi=true:=by
       refine List.all_eq_true.2 λx K=>?_
       have:=List.all_eq_true.1 b1 x K
       simp only [Bool.or_eq_true,beq_iff_eq] at this ⊢
       rcases this with(q | q) | q
       ·exact .inl (.inl q)
       ·left;right
        by_cases e:j=x
        ·subst e;rw [al] at q;cases q
        ·rw [Bi,getD_set_ne true e];exact q
       ·exact .inr q
      have bb:(Bi listed j).size=ops.size:=by unfold Bi;simpa using aw
      have be:HZ ops (Bi listed j)=true:=by
       refine List.all_eq_true.2 λx K=>?_
       cases bw:ops[x]? with
       | none=>simp
       | some c5=>
        simp only [Bool.or_eq_true,Bool.not_eq_true']
        by_cases e:j=x
        ·subst e
         obtain rfl:c5=U:=by rw [O] at bw;exact(Option.some.inj bw).symm
         right
         refine Array.all_eq_true'.2 λe he=>?_
         cases hb:Region.binds .any e with
         | false=>simp
         | true=>
          have:=bo e he hb
          by_cases e2:j=e.on
          ·rw [← e2] at this
           have bx:j<listed.size:=by rw [aw];exact(Array.getElem?_eq_some_iff.1 O).1
           simp [Array.getD_eq_getD_getElem?,bx] at this al
           rw [al] at this;cases this
          ·rw [Bi,getD_set_ne false e2];simpa using this
        ·cases ca:(Bi listed j).getD x false with
         | false=>exact .inl rfl
         | true=>
          right
          have c6:listed.getD x false=true:=by rw [Bi,getD_set_ne false e] at ca;exact ca
          refine Array.all_eq_true'.2 λbz he=>?_
          cases hb:Region.binds .any bz with
          | false=>simp
          | true=>
           have:=Pl b2 bw c6 bz he hb
           by_cases e2:j=bz.on
           ·rw [← e2] at this
            have bx:j<listed.size:=by rw [aw];exact(Array.getElem?_eq_some_iff.1 O).1
            simp [Array.getD_eq_getD_getElem?,bx] at this al
            rw [al] at this;cases this
           ·rw [Bi,getD_set_ne false e2];simpa using this
      refine⟨hd,λc7=>?_,λc8=>?_⟩
      ·have:=bi (by rw [p2];exact c7)
       rw [a7,Jk a5] at this
       obtain⟨Z,ac⟩:=Io (ops:=ops) (T:=T) (d:=U.dst) (v:=undef) (o:=oi) (av i oi hi) a6
       exact a2 _ _ _ a9 be bb a8 a4 (by rw [ac];exact hw) (λam s' c9 b0=>by unfold Yl;rw [Z];exact(ay am s' c9 b0).out) this
      ·have cc:=OS _ (bn (by rw [p2];exact c8))
       rw [p1] at cc
       refine EH _ cc ?_ (λ_ _ h=>h)
       rintro b4 s' ⟨K,b0,dd⟩
       have ce:=Ro (D:=D) b0
       have ci:(CH D s s').q=false:=by show s'.q=false;rw [dd];exact a4
       cases b4 with
       | value u=>
        simp only at K ⊢
        rw [a7,Jk a5] at K
        obtain⟨Z,ac⟩:=Io (ops:=ops) (T:=T) (d:=U.dst) (v:=u) (o:=oi) (av i oi hi) a6
        exact a2 _ _ _ a9 be bb a8 ci (by rw [ac];exact hw) (λam s2 a0 ap=>by unfold Yl;rw [Z];exact(ay am s2 a0 (by rw [ce] at ap;exact ap)).out) K
       | skip=>
        simp only at K ⊢
        rw [a7,Jk a5] at K
        obtain⟨Z,ac⟩:=Io (ops:=ops) (T:=T) (d:=U.dst) (v:=undef) (o:=oi) (av i oi hi) a6
        exact a2 _ _ _ a9 be bb a8 ci (by rw [ac];exact hw) (λam s2 a0 ap=>by unfold Yl;rw [Z];exact(ay am s2 a0 (by rw [ce] at ap;exact ap)).out) K
       | enter f args=>
        obtain⟨R,dn,dJ⟩:=K
        refine⟨R,dn,λu dK hu=>?_⟩
        obtain⟨co,r1,r2⟩:=dJ u dK hu
        refine⟨co,r1,?_⟩
        rw [a7,Jk a5] at r2
        obtain⟨Z,ac⟩:=Io (ops:=ops) (T:=T) (d:=U.dst) (v:=u) (o:=oi) (av i oi hi) a6
        exact a2 _ _ _ a9 be bb a8 co (by rw [ac];exact hw) (λam s2 a0 ap=>by unfold Yl;rw [Z];exact(ay am s2 a0 (λx o K=>ap x o (r1 x o K))).out) r2
       | _=>exact K.elim)
end
section
variable (J:Judge P)(Q:Gs_)(b:Frame)(n:Nat)(ds:Ld_)(ops:Ao_)(k:Li_)(cs:Lf_)(m:Nat)(D:Nat->Bool)
def AT(fuel:Nat)(listed:Array Bool)(L:Env)(s:St):Prop:=∀T,Has n L T->JA J Q b ds ops k cs m D fuel listed T s
end
def Dl:Nat->Bool:=λ_=>false
variable {D:Nat->Bool}{listed:Array Bool}
section
variable {b:Frame}{n:Nat}{m fuel:Nat}
theorem PW(m:Nat)(D:Nat->Bool){id:Nat}(K:s.q=false)(hm:P.follows .mixedOrders=true)(O:(b.kind != .early)=true)(h:AT J Q b n ds ops k cs m D ops.size (Array.replicate ops.size false) L s):JL J Q b n L ds (.code (.region id ops true)::k) cs s:=
 S4 K hm λt T U=>XI (by simpa using O) ops.size t _ T s (h T U)
theorem WS{i:Nat}{oi:Oper}{v:Value}(hi:ops[i]? =some oi)(U:decide (i<m)=true)(Y:EB ops m=true)(Z:Region.noSelect ops=true)(O:(!Eg oi.op)=true)(ac:IZ ops listed i oi=true)(ag:HZ ops listed=true)(al:(listed.size==ops.size)=true)(am:(Region.ready .any ops listed).contains i=true)(ap:s.q=false)
  (hw:AY L ops oi=some true) (aq:Br n oi.dst=true) (av:∀ρ,Ff L ρ->∀s',s'.q=false->(∀x o,(BE D s).E x=some o->s'.E x=some o)->Yl P oi ρ s' v)
  (h:AT J Q b n ds ops k cs m D fuel (Bi listed i) (AB L oi.dst v) s):AT J Q b n ds ops k cs m D (fuel+1) listed L s:=λT K=>by
 refine JA.take (w:=true) (v:=v) hi (by simpa using U) Y Z (λc aw=>by rw [aw] at O;simp [Eg] at O) fuel listed T s ac ag (by simpa using al) (by simpa using am) ap (Cq K hw) (λ_ s' ay az=>av _ K.Gs s' ay az) ?_
 exact h _ (K.put aq v)
theorem WZ{i:Nat}{oi:Oper}(hi:ops[i]? =some oi)(U:decide (i<m)=true)(Y:EB ops m=true)(Z:Region.noSelect ops=true)(K:(!Eg oi.op)=true)(ac:IZ ops listed i oi=true)(ag:HZ ops listed=true)(al:(listed.size==ops.size)=true)(am:(Region.ready .any ops listed).contains i=true)(ap:s.q=false)
  (hw:AY L ops oi=some false) (aq:Br n oi.dst=true)
  (h:AT J Q b n ds ops k cs m D fuel (Bi listed i) (AB L oi.dst undef) s):AT J Q b n ds ops k cs m D (fuel+1) listed L s:=λT O=>by
 refine JA.take (w:=false) (v:=undef) hi (by simpa using U) Y Z (λc av=>by rw [av] at K;simp [Eg] at K) fuel listed T s ac ag (by simpa using al) (by simpa using am) ap (Cq O hw) (λe=>by cases e) ?_
 exact h _ (O.put aq undef)
theorem SV(al:s.q=false)(am:Region.ready .any ops listed≠ [])
  (h:∀i∈Region.ready .any ops listed,∀o,ops[i]? =some o->(!Eg o.op)=true/\Br n o.dst=true/\∃w,AY L ops o=some w/\
   (w=false->AT J Q b n ds ops k cs m D fuel (Bi listed i) (AB L o.dst undef) s)/\
   (w=true->∀ρ,Ff L ρ->lp P (execOp ρ o) (BE D s) (λac s'=>match ac with
    | .value v=>AT J Q b n ds ops k cs m D fuel (Bi listed i) (AB L o.dst v) (CH D s s')
    | .skip=>AT J Q b n ds ops k cs m D fuel (Bi listed i) (AB L o.dst undef) (CH D s s')
    | .enter f args=>∃R,Fa J f args (CH D s s') R/\∀v K,R v K->K.q=false/\(∀x o,(BE D s).E x=some o->(BE D K).E x=some o)/\AT J Q b n ds ops k cs m D fuel (Bi listed i) (AB L o.dst v) K
    | _=>False) (λ_ _=>False))):
  AT J Q b n ds ops k cs m D (fuel+1) listed L s:=λT O=>by
 refine .inr ⟨am,al,λi hi o ap=>?_⟩
 obtain⟨ag,U,w,hw,aq,av⟩:=h i hi o ap
 have Y:=Cq O hw
 refine⟨λc aw=>by rw [aw] at ag;simp [Eg] at ag,λe=>?_,λe=>?_⟩
 ·rw [e] at Y
  exact aq Y.symm _ (O.put U undef)
 ·rw [e] at Y;refine EH _ (av Y.symm _ O.Gs) ?_ (λ_ _ h=>h);intro ac s' Z;cases ac with
  | value v=>exact Z _ (O.put U v)
  | skip=>exact Z _ (O.put U undef)
  | enter f args=>
   obtain⟨R,ay,az⟩:=Z;exact⟨R,ay,λv K a0=>let ⟨a,b,c⟩:=az v K a0;⟨a,b,c _ (O.put U v)⟩⟩
  | _=>exact Z.elim
theorem AT.one{i:Nat}{o:Oper}(ac:s.q=false)(Y:Region.ready .any ops listed= [i])(hi:ops[i]? =some o)(O:(!Eg o.op&&Br n o.dst)=true)(hw:AY L ops o=some true)
  (h:∀ρ,Ff L ρ->lp P (execOp ρ o) (BE D s) (λag s'=>match ag with
    | .value v=>AT J Q b n ds ops k cs m D fuel (Bi listed i) (AB L o.dst v) (CH D s s')
    | .skip=>AT J Q b n ds ops k cs m D fuel (Bi listed i) (AB L o.dst undef) (CH D s s')
    | .enter f args=>∃R,Fa J f args (CH D s s') R/\∀v K,R v K->K.q=false/\(∀x o,(BE D s).E x=some o->(BE D K).E x=some o)/\AT J Q b n ds ops k cs m D fuel (Bi listed i) (AB L o.dst v) K
    | _=>False) (λ_ _=>False)):
  AT J Q b n ds ops k cs m D (fuel+1) listed L s:=by
 simp only [Bool.and_eq_true] at O;refine SV ac (by rw [Y];simp) λj U o' Z=>?_;rw [Y] at U;simp at U;subst U;obtain rfl:o'=o:=by rw [hi] at Z;exact(Option.some.inj Z).symm
 exact⟨O.1,O.2,true,hw,λe=>(by cases e),λ_=>h⟩
theorem AT.call{i:Nat}{d:Option Tmp}{f:FuncId}{args:Array Operand}{ats:Array TypeId}{ty:TypeId}{p:String}{af:Ae_}{g:On_}{vs:Lv_}{R:Value->St->Prop}(U:s.q=false)(Y:Region.ready .any ops listed= [i])
  (Z:ops[i]? =some ⟨d,.call ⟨.value (.func f),args,ats⟩,ty,p,af,g⟩) (ac:Br n d=true) (hw:AY L ops ⟨d,.call ⟨.value (.func f),args,ats⟩,ty,p,af,g⟩=some true) (hb:Em P f=true) (ag:evs L args.toList=some vs)
  (al:Fa J f vs.toArray s R) (h:∀v K,R v K->K.q=false/\(∀x o,(BE D s).E x=some o->(BE D K).E x=some o)/\AT J Q b n ds ops k cs m D fuel (Bi listed i) (AB L d v) K):
  AT J Q b n ds ops k cs m D (fuel+1) listed L s:=by
 refine AT.one U Y Z (by simp [Eg,ac]) hw λρ O=>?_;have am:args.map ρ=vs.toArray:=by
  rw [← GW O ag];apply Array.ext';simp
 have ap:ρ (.func f)= .func (.func f) #[] #[]:=O _ _ V;simp only [execOp,resolve,bind,Sem.bind,Deferred.ofValue,ap,pure,invoke];have e: #[]++args.map ρ++ #[]=vs.toArray:=by rw [am];simp
 rw [e];refine Ji hb ?_;rw [Lb];exact⟨R,al,h⟩
theorem AT.leaf{tail:List Nat}(K:QS m listed=true)(hgo:∀t,Region.linearise.go .any ops (fuel+1) t listed []=tail)(h:JL J Q b n L ds (.inRegion ops tail::k) cs s):AT J Q b n ds ops k cs m D (fuel+1) listed L s:=λT O=>
 .inl ⟨K,λt=>by rw [hgo t];exact h T O⟩
theorem AT.fin(K:Region.ready .any ops listed= [])(h:JL J Q b n L ds k cs s):AT J Q b n ds ops k cs m D 0 listed L s:=λT O=>⟨K,JL.done h T O⟩
theorem ZZ{listed:Array Bool}{i:Nat}{tail:List Nat}{fuel:Nat}(K:Region.ready .any ops listed= [i])(h:∀t,Region.linearise.go .any ops fuel t (Bi listed i) []=tail)(t:Nat):Region.linearise.go .any ops (fuel+1) t listed []=i::tail:=by
 simp only [Region.linearise.go];change (match(Region.ready .any ops listed)[t % (Region.ready .any ops listed).length]? with
  | some i=>Region.linearise.go .any ops fuel (t / (Region.ready .any ops listed).length) (listed.setIfInBounds i true) [i]
  | none=> [].reverse)=_
 rw [K];simp only [List.length_singleton,Nat.mod_one,List.getElem?_cons_zero];rw [linearise_go_acc];have:=h (t / 1);unfold Bi at this;rw [this];rfl
theorem Ye{i:Nat}{rest:List Nat}{d:Option Tmp}{f:FuncId}{args:Array Operand}{ats:Array TypeId}{ty:TypeId}{p:String}{af:Ae_}{g:On_}{vs:Lv_}{R:Value->St->Prop}
  (U:ops[i]? =some ⟨d,.call ⟨.value (.func f),args,ats⟩,ty,p,af,g⟩) (hw:AY L ops ⟨d,.call ⟨.value (.func f),args,ats⟩,ty,p,af,g⟩=some true) (K:((b.kind != .early)&&Br n d)=true) (hb:Em P f=true)
  (Y:evs L args.toList=some vs) (Z:Fa J f vs.toArray s R) (ac:∀v s',R v s'->JL J Q b n (AB L d v) ds (.inRegion ops rest::k) cs s'):
  JL J Q b n L ds (.inRegion ops (i::rest)::k) cs s:=λT O=>by
 simp only [Bool.and_eq_true] at K
 have ag:args.map (BK T)=vs.toArray:=by
  rw [← GW O.Gs Y];apply Array.ext';simp
 refine Judge.oper U (Cq O hw) (by simpa using K.1) (.inr λc al=>by cases al) ?_;have hd:lp P (execOp (BK T) ⟨d,.call ⟨.value (.func f),args,ats⟩,ty,p,af,g⟩) s (upon J Q b T ds ops i rest k cs d) (LL J Q b T ds ops i rest k cs):=by
  simp only [execOp,resolve,bind,Sem.bind,Deferred.ofValue,BK,pure,invoke];have e: #[]++args.map (BK T)++ #[]=vs.toArray:=by rw [ag];simp
  rw [e];refine Ji hb (Z Q _ cs λv s' am=>?_);rw [GV (o:=⟨d,.call ⟨.value (.func f),args,ats⟩,ty,p,af,g⟩) _ _ _ _ _ U];exact ac v s' am _ (O.put K.2 v)
 exact hd
theorem Fa.enter{f:FuncId}{fn:Func}{c:Code}{vs:Lv_}{R:Value->St->Prop}(Y:P.funcs[f]? =some fn)(hb:fn.body=some c)(ag:vs.length<=fn.ntmps)
  (h:∀(Q:Gs_) (K:Frame) (cs:Lf_),(∀v s',R v s'->J.ok Q (G (K.finish v) cs) s')->JL J Q (base f) fn.ntmps (GG 0 vs) [] [.code c] (K::cs) s):Fa J f vs.toArray s R:=λQ K cs Z=>by
 have he:Frame.enter P f vs.toArray .normal=fr (base f) (vs.toArray++Array.replicate (fn.ntmps - vs.length) undef) [] [.code c]:=by
  simp [Frame.enter,fr,Y,hb,base];rfl
 rw [he];refine h Q K cs Z _ ⟨by simp;omega,λt v ht=>?_⟩;obtain⟨_,O⟩:=JV ht;have ac:t<vs.length:=by
  rcases Nat.lt_or_ge t vs.length with U | U
  ·exact U
  ·simp at O;have:=(List.getElem?_eq_some_iff.1 O).1;omega
 rw [Array.getD_eq_getD_getElem?,Array.getElem?_append_left (by simpa using ac)];simp at O;simp [O]
end
variable {E':LH}{B0:List (Nat×Obj)}
section
variable {b:Frame}{n:Nat}
theorem TR(O:s.q=false)(h:(∃w,Fits s w)->JL J Q b n L ds k cs s):JL J Q b n L ds k cs s:=λT U=>by
 by_cases K:∃w,Fits s w
 ·exact h K T U
 ·exact J.step ⟨V,λw f=>absurd ⟨w,f⟩ K,λe=>by subst e;cases O⟩
theorem RH{x:Nat}:∀{B:List (Nat×Obj)},(∃p∈B,p.1=x)->Bc B H x≠none
 | [],⟨p,K,_⟩=>by cases K
 | (c,o)::B,⟨p,K,e⟩=>by
  simp only [Bc]
  split
  ·simp
  ·rename_i O;rcases List.mem_cons.1 K with q | q
   ·subst q;exact absurd e.symm O
   ·exact RH ⟨p,q,e⟩
theorem Nd.grow(O:Nd E H B)(hd:∀x,E' x≠none->Bc B H x=none):Nd E' H B:=by
 have key:∀{C:List (Nat×Obj)},Nd E H C->(∀p∈C,p∈B)->Nd E' H C:=by
  intro C
  induction C with
  | nil=>intro _ _;trivial
  | cons p C U=>
   obtain⟨c,o⟩:=p;intro hC hs;refine⟨?_,hC.2.1,hC.2.2.1,U hC.2.2.2 λp K=>hs p (List.mem_cons_of_mem _ K)⟩;cases Y:E' c with
   | none=>rfl
   | some u=>exact absurd (hd c (by rw [Y];simp)) (RH ⟨(c,o),hs _ (by simp),rfl⟩)
 exact key O λp K=>K
def O2(E:LH)(K:Nat)(v:Value)(n:Nat)(xs:Lv_):Prop:=
 ∃a c,v= .slice a n c/\n<=c/\xs.length=n*K/\(n=0∨∃bk off f e fr,a=some ⟨bk,off,none⟩/\E bk=some (.cells f e fr)/\∀j w,xs[j]? =some w->f[off+j]? =some w)
theorem O2.nil{K:Nat}:O2 E K (.slice none 0 0) 0 []:=⟨none,0,V,Nat.le_refl _,by simp,.inl V⟩
def GS(e:TypeId)(K:Nat)(a:Option Addr)(l c:Nat)(blk:List (Nat×Obj))(xs:Lv_):Prop:=
 (a=none/\l=0/\c=0/\blk= []/\xs= [])∨∃bk f,a=some ⟨bk,0,none⟩/\blk= [(bk,.cells f e (0,0))]/\f.size=c*K/\l<=c/\xs=f.toList.take (l*K)
theorem GS.nil{e:TypeId}{K:Nat}:GS e K none 0 0 [] []:= .inl ⟨V,V,V,V,V⟩
theorem GS.length{e:TypeId}{K:Nat}{a:Option Addr}{l c:Nat}{blk:List (Nat×Obj)}{xs:Lv_}(h:GS e K a l c blk xs):xs.length=l*K:=by
 rcases h with⟨_,rfl,_,_,rfl⟩ | ⟨bk,f,_,_,O,U,rfl⟩
 ·simp
 ·have:l*K<=c*K:=Nat.mul_le_mul_right _ U;simp [O,Nat.min_eq_left this]
theorem Ve{t e:TypeId}{v:Value}{Q:Value->St->Prop}{X:Halt->St->Prop}{z:Value}(ht:P.underlying t=some (.slice e))(O:Bv P e=some v.cells.size)(U:zeroOf P e=some z)(al:z.cells.size=v.cells.size)(am:0<v.cells.size)(ap:v.cells.size<=64)
  (Y:Nd E H B) (k:∀r,Nd E H (B++ [(r,.cells v.cells e (0,0))])->Q (.slice (some ⟨r,0,none⟩) 1 1) (mk E H (B++ [(r,.cells v.cells e (0,0))]))):lp P (Instr.buildSlice t 1 #[(0,v)]) (mk E H B) Q X:=by
 unfold Instr.buildSlice;refine Az _ _ (Cx ht ?_);refine Az _ _ (Fb O ?_);rw [if_neg (by omega),if_neg (by omega)];refine Az (x:=zeroValue e) _ (Hu U ?_);have Z:Instr.fill (λi=>some (i*v.cells.size,v.cells.size)) ((Array.range (1*v.cells.size)).map λi=>z.cells[i % z.cells.size]!) [(0,v)]=some v.cells:=by
  simp only [Instr.fill,Array.size_map,Array.size_range,Nat.one_mul,Nat.zero_mul];rw [if_neg (by simp)];congr 1;apply Array.ext_getElem?;intro j;have key:∀(l:Lv_) (st:Nat) (c:Av_),st+l.length<=c.size->∀j,(List.foldl (λcs (p:Value×Nat)=>cs.setIfInBounds (0+p.2) p.1) c (l.zipIdx st))[j]? =if st<=j/\j<st+l.length then l[j - st]? else c[j]? :=by
   intro l
   induction l with
   | nil=>intro st c _ j;simp;omega
   | cons x l ac=>
    intro st c aq j;simp only [List.zipIdx_cons,List.foldl_cons,List.length_cons] at*;rw [ac (st+1) _ (by simp;omega) j];simp only [Nat.zero_add];by_cases ag:j=st
    ·subst ag;rw [if_neg (by omega),if_pos (by omega)];rw [Nat.sub_self,List.getElem?_cons_zero,Array.getElem?_setIfInBounds_self_of_lt (by omega)]
    ·by_cases e2:st+1<=j/\j<st+1+l.length
     ·rw [if_pos e2,if_pos (by omega)];have:j - st=(j - (st+1))+1:=by omega
      rw [this];simp
     ·rw [if_neg e2,if_neg (by omega),Array.getElem?_setIfInBounds_ne (by omega)]
  have:=key v.cells.toList 0 ((Array.range v.cells.size).map λi=>z.cells[i % z.cells.size]!) (by simp) j;rw [← Array.foldl_toList,Array.toList_zipIdx,this];by_cases K:j<v.cells.size
  ·simp [K]
  ·simp [K]
 rw [Il];simp only [Z];exact Az _ _ (Ip Y k)
end
section
variable {b:Frame}{n:Nat}
theorem Md{ρ:Operand->Value}{d:Option Tmp}{x y:Operand}{ats:Array TypeId}{ty:TypeId}{p:String}{af:Ae_}{g:On_}:
  execOp ρ ⟨d,.call ⟨.builtin .append,#[x,y],ats⟩,ty,p,af,g⟩=(do pure (Next.value (← Builtin.append_ ats ty #[ρ x,ρ y]))):=by
 simp [execOp,resolve,invoke,builtin,bind,Sem.bind,pure]
theorem Vj{ρ:Operand->Value}{d:Option Tmp}{y:Operand}{t ty:TypeId}{p:String}{af:Ae_}{g:On_}:
  execOp ρ ⟨d,.buildSlice t 1 #[(0,y)],ty,p,af,g⟩=(do pure (Next.value (← Instr.buildSlice t 1 #[(0,ρ y)]))):=by
 simp [execOp]
theorem aE{L:Env}{d1:Tmp}{w:Value}:ev (AB L (some d1) w) (.tmp d1)=some w:=by
 simp [AB,ev,look]
theorem Ju{α:Type}(l r:List α)(x y:α):(l++x::r).set l.length y=l++y::r:=by simp
theorem JU{e t t1:TypeId}{Y aq l c m:Nat}{a:Option Addr}{blk:List (Nat×Obj)}{xs ys:Lv_}{i:Nat}{rest:List Nat}{d:Option Tmp}{x y:Operand}{ats:Array TypeId}{ty:TypeId}{p:String}{af:Ae_}{g:On_}{z:Value}{ax:Option Addr}{cx:Nat}{B1:List (Nat×Obj)}
  (a4:ops[i]? =some ⟨d,.call ⟨.builtin .append,#[x,y],ats⟩,ty,p,af,g⟩) (hw:AY L ops ⟨d,.call ⟨.builtin .append,#[x,y],ats⟩,ty,p,af,g⟩=some true) (a5:BY b n ⟨d,.call ⟨.builtin .append,#[x,y],ats⟩,ty,p,af,g⟩=true)
  (a6:ev L x=some (.slice a l c)) (a7:ev L y=some (.slice ax m cx)) (a8:ats[0]? =some t) (a9:ats[1]? =some t1) (ht:P.underlying t=some (.slice e)) (bb:P.underlying t1=some (.slice e)) (be:Bv P e=some Y) (hb:F0 P e=some aq) (bi:zeroOf P e=some z) (bn:z.cells.size=Y)
  (bo:0<aq) (bv:aq<=64) (b5:0<m) (bw:l+m<=2 ^ 40) (bx:∀w∈ys,Dv w=true) (hg:GS e Y a l c blk xs) (bz:Nd E H (B0++blk++B1)) (hs:H6 (mk E H (B0++blk++B1)) (.slice ax m cx) Y ys)
  (h:∀a2 ag av,GS e Y a2 (l+m) ag av (xs++ys)->Nd E H (B0++av)->JL J Q b n (AB L d (.slice a2 (l+m) ag)) ds (.inRegion ops rest::k) cs (mk E H (B0++av))):
  JL J Q b n L ds (.inRegion ops (i::rest)::k) cs (mk E H (B0++blk++B1)):=by
 refine JL.op a4 hw a5 λρ a3=>?_;rw [Md,a3 x _ a6,a3 y _ a7];have b0:OI (B0++blk++B1) B0.length e Y a l c xs:=by
  rcases hg with⟨O,ac,al,aw,am⟩ | ⟨bk,f,O,ac,al,aw,am⟩
  ·exact .inl ⟨O,ac,al,am⟩
  ·refine .inr ⟨bk,f,O,?_,al,aw,am⟩;subst ac;simp
 have hlen:=hg.length;refine Az _ _ (PK (pl:=B0.length) a8 a9 bb ht be hb bi bn bz b0 hs bx bo bw bv ?_ ?_ ?_)
 ·
  intro bk f K ap b6 ca b1 ay az Z;rcases hg with⟨O,_⟩ | ⟨U,f0,O,ac,al,aw,am⟩
  ·rw [O] at ap;cases ap
  ·subst ac;have b2:U=bk:=by rw [O] at ap;simpa using ap
   subst b2;have b3:(B0++ [(U,Obj.cells f0 e (0,0))]++B1).set B0.length (U,.cells K e (0,0))=B0++ [(U,.cells K e (0,0))]++B1:=by
    rw [List.append_assoc,List.append_assoc];exact Ju _ _ _ _
   rw [b3] at Z ⊢;have a0:Nd E H (B0++ [(U,.cells K e (0,0))]):=Nd.left Z;refine JL.drop (B0++ [(U,.cells K e (0,0))]) (λp a1=>?_) Z (h a c _ (.inr ⟨U,K,O,V,ay,b1,az.symm⟩) a0);exact List.mem_iff_getElem?.1 (List.mem_append_left _ a1)
 ·intro _ hm;omega
 ·
  intro r K ag b4 ay az Z;have a0:Nd E H (B0++ [(r,.cells K e (0,0))]):=Nd.pick Z;refine JL.drop (B0++ [(r,.cells K e (0,0))]) (λp a1=>?_) Z (h (some ⟨r,0,none⟩) ag _ (.inr ⟨r,K,V,V,ay,b4,az.symm⟩) a0);refine List.mem_iff_getElem?.1 ?_;rcases List.mem_append.1 a1 with q | q
  ·simp [q]
  ·exact List.mem_append_right _ q
 where
  Nd.left {E H : LH} {A C : List (Nat × Obj)} (h : Nd E H (A ++ C)) : Nd E H A := by
    induction A with
    | nil => trivial
    | cons p A ih =>
      obtain ⟨c, o⟩ := p
      obtain ⟨h1, h2, h3, h4⟩ := h
      exact ⟨h1, h2, λq hq => h3 q (List.mem_append_left _ hq), ih h4⟩
  Nd.pick {E H : LH} {A C F : List (Nat × Obj)} {x : Nat × Obj} (h : Nd E H (A ++ C ++ F ++ [x])) : Nd E H (A ++ [x]) := by
    induction A with
    | nil =>
      have : ∀ (D : List (Nat × Obj)), Nd E H (D ++ [x]) -> Nd E H [x] := by
        intro D
        induction D with
        | nil => exact λh => h
        | cons p D ih => obtain ⟨c, o⟩ := p; exact λh => ih h.2.2.2
      exact this _ h
    | cons p A ih =>
      obtain ⟨c, o⟩ := p
      obtain ⟨h1, h2, h3, h4⟩ := h
      refine ⟨h1, h2, λq hq => h3 q ?_, ih h4⟩
      rcases List.mem_append.1 hq with hq | hq
      . simp [hq]
      . exact List.mem_append_right _ hq
theorem W9{K r:Nat}{e:TypeId}{v:Value}{A:List (Nat×Obj)}(O:v.cells.size=K)(U:Nd E H (A++ [(r,.cells v.cells e (0,0))])):
  H6 (mk E H (A++ [(r,.cells v.cells e (0,0))])) (.slice (some ⟨r,0,none⟩) 1 1) K v.cells.toList:=by
 refine⟨.inl V,by simp [O],Nat.le_refl _,λj w Y=>?_⟩;simp only [Nat.zero_add];refine SH (i:=A.length) U (c:=v.cells) (e:=e) (f:=(0,0)) (by simp) ?_;simpa using Y
theorem V1{e t t1 t2:TypeId}{K O l c:Nat}{a:Option Addr}{blk:List (Nat×Obj)}{xs:Lv_}{i al:Nat}{rest:List Nat}{d1:Tmp}{d:Option Tmp}{x y:Operand}{ats:Array TypeId}{ty U:TypeId}{p Y:String}{af Z:Ae_}{g g':On_}{z v:Value}
  (az:ops[i]? =some ⟨some d1,.buildSlice t2 1 #[(0,y)],U,Y,Z,g'⟩) (hw:AY L ops ⟨some d1,.buildSlice t2 1 #[(0,y)],U,Y,Z,g'⟩=some true) (a0:BY b n ⟨some d1,.buildSlice t2 1 #[(0,y)],U,Y,Z,g'⟩=true)
  (a1:ops[al]? =some ⟨d,.call ⟨.builtin .append,#[x,.tmp d1],ats⟩,ty,p,af,g⟩) (a2:∀w,AY (AB L (some d1) w) ops ⟨d,.call ⟨.builtin .append,#[x,.tmp d1],ats⟩,ty,p,af,g⟩=some true) (a3:BY b n ⟨d,.call ⟨.builtin .append,#[x,.tmp d1],ats⟩,ty,p,af,g⟩=true)
  (a4:∀w,ev (AB L (some d1) w) x=some (.slice a l c)) (a5:ev L y=some v) (a6:ats[0]? =some t) (a7:ats[1]? =some t1) (ht:P.underlying t=some (.slice e)) (a8:P.underlying t1=some (.slice e)) (a9:P.underlying t2=some (.slice e)) (am:Bv P e=some K) (hb:F0 P e=some O) (ap:zeroOf P e=some z) (aq:z.cells.size=K)
  (bb:0<O) (be:O<=64) (ac:v.cells.size=K) (bw:0<K) (bx:K<=64) (bi:l+1<=2 ^ 40) (bn:∀w∈v.cells.toList,Dv w=true) (hg:GS e K a l c blk xs) (bo:Nd E H (B0++blk))
  (h:∀w av aw ag,GS e K av (l+1) aw ag (xs++v.cells.toList)->Nd E H (B0++ag)->JL J Q b n (AB (AB L (some d1) w) d (.slice av (l+1) aw)) ds (.inRegion ops rest::k) cs (mk E H (B0++ag))):
  JL J Q b n L ds (.inRegion ops (i::al::rest)::k) cs (mk E H (B0++blk)):=by
 refine JL.op az hw a0 λρ bv=>?_;rw [Vj,bv y _ a5];refine Az _ _ (Ve (z:=z) (v:=v) a9 (by rw [ac];exact am) ap (by rw [ac];exact aq) (by omega) (by omega) bo λr ay=>?_);refine JU (B1:= [(r,.cells v.cells e (0,0))]) (m:=1) (cx:=1) (ax:=some ⟨r,0,none⟩) (y:= .tmp d1) (x:=x) (ys:=v.cells.toList) (l:=l) (c:=c) (a:=a) (blk:=blk) (xs:=xs) a1 (a2 _) a3 (a4 _) aE a6 a7 ht a8 am hb ap aq bb be (by omega) bi bn hg ay ?_ (h _);exact W9 ac ay
theorem Vu{e:TypeId}{K l c:Nat}{a:Option Addr}{blk:List (Nat×Obj)}{xs:Lv_}{todo:Li_}(hg:GS e K a l c blk xs)(U:Nd E H (B0++blk))
  (h:∀E',Le E E'->O2 E' K (.slice a l c) l xs->Nd E' H B0->JL J Q b n L ds todo cs (mk E' H B0)):JL J Q b n L ds todo cs (mk E H (B0++blk)):=by
 rcases hg with⟨rfl,rfl,rfl,rfl,rfl⟩ | ⟨bk,f,rfl,rfl,ac,Y,rfl⟩
 ·simp only [List.append_nil] at U ⊢;exact h E (Le.refl _) .nil U
 ·have ag:(B0++ [(bk,Obj.cells f e (0,0))])[B0.length]? =some (bk,Obj.cells f e (0,0)):=by simp
  refine JL.freeze B0.length U ag λE' hle al Z=>?_;have am:(B0++ [(bk,Obj.cells f e (0,0))]).eraseIdx B0.length=B0:=by rw [List.eraseIdx_append_of_length_le (Nat.le_refl _)];simp
  rw [am] at Z ⊢;refine h E' hle ⟨_,c,V,Y,?_,.inr ⟨bk,0,f,e,(0,0),V,al,λj w O=>?_⟩⟩ Z
  ·have:l*K<=c*K:=Nat.mul_le_mul_right _ Y;simp [ac,Nat.min_eq_left this]
  ·rw [List.getElem?_take] at O;split at O
   ·simpa using O
   ·cases O
end
abbrev iV(n:Int):Value:= .int .i64 n
variable {c:Nat}
section
variable {x:Operand}{a:Nat}
end
theorem Qe{P:Program}{t:TypeId}{K:TypeInfo}(h:P.types[t]? =some K):P.info? t=some K:=by
 have:=(Array.getElem?_eq_some_iff.1 h).1;unfold Tables.info?;rw [if_pos this,h]
theorem AZ{P:Program}{t:TypeId}{K:TypeInfo}(h:P.types[t]? =some K):Bv P t=some K.size:=by simp [Bv,Qe h]
theorem B8{P:Program}{t:TypeId}{K:TypeInfo}(h:P.types[t]? =some K):F0 P t=some K.bytes:=by simp [F0,Qe h]
theorem Dz{P:Program}{t:TypeId}{K:TypeInfo}(h:P.types[t]? =some K):zeroOf P t=K.zero:=by simp [zeroOf,Qe h]
def Zz:TypeDesc->Bool | .struct _=>true | .array _ _=>true | _=>false
theorem C4{P:Program}{t:TypeId}{d:TypeDesc}(h:P.underlying t=some d):Dc P t=some (Zz d):=by
 unfold Dc;rw [h];cases d <;> rfl
theorem A5{P:Program}{f:FuncId}{fn:Func}(h:P.funcs[f]? =some fn)(hb:(!(fn.name== "runtime.NumGoroutine")&&fn.body.isSome)=true):Em P f=true:=by
 simp only [Em,h];exact hb
def Uw(a:Nat):Nat->List Nat
 | 0=> []
 | n+1=>Uw a n++(if a.testBit n then [n] else [])
abbrev OX(a:Nat):List Nat:=Uw a 16
end Pal
namespace Pal
open Go Go.Conc
def At(E:LH)(bk o:Nat)(ws:Lv_):Prop:=∃f e fr,E bk=some (.cells f e fr)/\∀j w,ws[j]? =some w->f[o+j]? =some w
theorem At.M{E E':LH}{bk o:Nat}{ws:Lv_}(h:At E bk o ws)(hle:Le E E'):At E' bk o ws:=let ⟨f,e,fr,K,O⟩:=h;⟨f,e,fr,hle _ _ K,O⟩
theorem At.cell{E H:LH}{B:List (Nat×Obj)}{bk o j:Nat}{ws:Lv_}{w:Value}(h:At E bk o ws)(K:ws[j]? =some w):(mk E H B).cell? ⟨bk,o+j,none⟩=some w:=
 let ⟨_,_,_,O,U⟩:=h;Wi O (U j w K)
theorem At.cells{E H:LH}{B:List (Nat×Obj)}{bk o:Nat}{ws:Lv_}(h:At E bk o ws):∀j v,ws[j]? =some v->(mk E H B).cell? (Addr.add ⟨bk,o,none⟩ j)=some v:=λj v K=>by
 rw [El rfl];exact h.cell K
variable {P:Program}{J:Judge P}{Q:Gs_}{ds:Ld_}{ops:Ao_}{k:Li_}{cs:Lf_}{L:Env}{s:St}{E E' H:LH}{B B0:List (Nat×Obj)}
variable {d:Option Tmp}{y:Operand}{t u ty e:TypeId}{p:String}{af:Ae_}{g:On_}{rest:List Nat}{kd:IntKind}
section
variable {b:Frame}{n:Nat}
variable {x:Operand}{v:Value}{i:Nat}
theorem JL.put(h:look L i=some v)(O:JL J Q b n (AB L (some i) v) ds k cs s):JL J Q b n L ds k cs s:=λT K=>
 O T ⟨K.size,λt w e=>by
  simp only [AB,look] at e
  split at e
  ·rename_i U;subst U;cases e;exact K.at_ _ _ h
  ·exact K.at_ _ _ e⟩
theorem Ml{q:Prop} [Decidable q] (h:look L i=some (.bool (decide q)))(O:q->JL J Q b n (AB L (some i) (.bool true)) ds k cs s)(U:¬q->JL J Q b n (AB L (some i) (.bool false)) ds k cs s):JL J Q b n L ds k cs s:=by
 by_cases K:q
 ·refine JL.put (i:=i) (v:= .bool true) ?_ (O K);rw [h,decide_eq_true K]
 ·refine JL.put (i:=i) (v:= .bool false) ?_ (U K);rw [h,decide_eq_false K]
theorem KB{c:Bool}(h:look L i=some (.bool c))(K:c=true->JL J Q b n (AB L (some i) (.bool true)) ds k cs s)(O:c=false->JL J Q b n (AB L (some i) (.bool false)) ds k cs s):JL J Q b n L ds k cs s:=by
 cases c
 ·exact JL.put h (O V)
 ·exact JL.put h (K V)
end
theorem Gp{P:Program}{s:St}{ρ:Operand->Value}{d:Option Tmp}{t ty ft:TypeId}{x:Operand}{p:String}{af:Ae_}{g:On_}{a:Addr}{O:Array Field}{i:Nat}{K:Field}(U off:Nat)(ht:P.underlying t=some (.struct O))(Y:Bv P ft=some (U+1))(hi:O[i]? =some K)(Z:K.type=ft)(ac:K.offset=off)(ag:ρ x= .pointer (some a)):
  Yl P ⟨d,.fieldAddr t x i,ty,p,af,g⟩ ρ s (.pointer (some (a.add off))):=by
 subst Z ac;exact Yl.fieldAddr ht hi Y ag
section
variable {b:Frame}{n:Nat}
variable {x:Operand}{v:Value}{i:Nat}
theorem At.Jy{bk o j:Nat}{ws:Lv_}{w:Value}(h:At E bk o ws)(hs:∀x o,E x=some o->s.E x=some o)(K:ws[j]? =some w):s.cell? ⟨bk,o+j,none⟩=some w:=by
 obtain⟨f,e,fr,O,U⟩:=h;unfold St.cell? St.get;rw [hs _ _ O];exact U j w K
theorem At.bA{bk o:Nat}{ws:Lv_}(h:At E bk o ws)(hs:∀x o,E x=some o->s.E x=some o):∀j v,ws[j]? =some v->s.cell? (Addr.add ⟨bk,o,none⟩ j)=some v:=λj v K=>by
 rw [El rfl];exact h.Jy hs K
end
variable {listed:Array Bool}
section
variable {b:Frame}{n:Nat}{m fuel:Nat}
variable {x:Operand}{v:Value}{i:Nat}
end
variable {D:Nat->Bool}
section
variable {b:Frame}{n:Nat}{m fuel:Nat}{i:Nat}{v:Value}
theorem AT.put(h:look L i=some v)(O:AT J Q b n ds ops k cs m D fuel listed (AB L (some i) v) s):AT J Q b n ds ops k cs m D fuel listed L s:=λT K=>
 O T ⟨K.size,λt w e=>by
  simp only [AB,look] at e
  split at e
  ·rename_i U;subst U;cases e;exact K.at_ _ _ h
  ·exact K.at_ _ _ e⟩
theorem GU{q:Prop} [Decidable q] (h:look L i=some (.bool (decide q)))(O:q->AT J Q b n ds ops k cs m D fuel listed (AB L (some i) (.bool true)) s)(U:¬q->AT J Q b n ds ops k cs m D fuel listed (AB L (some i) (.bool false)) s):AT J Q b n ds ops k cs m D fuel listed L s:=by
 by_cases K:q
 ·refine AT.put (i:=i) (v:= .bool true) ?_ (O K);rw [h,decide_eq_true K]
 ·refine AT.put (i:=i) (v:= .bool false) ?_ (U K);rw [h,decide_eq_false K]
end
structure Rp (α:Type) where
 n:Nat
 r:LH->Lv_->α->Prop
 M:∀{E E':LH} {ws:Lv_} {x:α},Le E E'->r E ws x->r E' ws x
 len:∀{E:LH} {ws:Lv_} {x:α},r E ws x->ws.length=n
 one:∀{E:LH} {ws:Lv_} {x:α},r E ws x->∀w∈ws,Dv w=true
def rK(kd:IntKind):Rp Int:=⟨1,λ_ ws x=>ws= [.int kd x],λ_ h=>h,λh=>by subst h;rfl,λh w hw=>by subst h;simp at hw;subst hw;rfl⟩
abbrev rI:Rp Int:=rK .i64
def rN(kd:IntKind):Rp Nat:=⟨1,λ_ ws x=>ws= [.int kd ((x:Nat):Int)],λ_ h=>h,λh=>by subst h;rfl,λh w hw=>by subst h;simp at hw;subst hw;rfl⟩
def rB:Rp Bool:=⟨1,λ_ ws x=>ws= [.bool x],λ_ h=>h,λh=>by subst h;rfl,λh w hw=>by subst h;simp at hw;subst hw;rfl⟩
def rP{α β:Type}(p:Rp α)(q:Rp β):Rp (α×β):=⟨p.n+q.n,λE ws x=>∃U Y,ws=U++Y/\p.r E U x.1/\q.r E Y x.2,
 λhle ⟨a,b,h,K,O⟩=>⟨a,b,h,p.M hle K,q.M hle O⟩,λ⟨a,b,h,K,O⟩=>by subst h;rw [List.length_append,p.len K,q.len O],
 λ⟨a,b,h,K,O⟩ w hw=>by
  subst h
  rcases List.mem_append.1 hw with hw | hw
  ·exact p.one K w hw
  ·exact q.one O w hw⟩
def An{α:Type}(p:Rp α)(E:LH)(a:Option Addr)(c:Nat)(xs:List α):Prop:=
 xs.length<=c/\((xs= []/\∀ad:Addr,a=some ad->ad.spot=none∨c=0)∨∃bk off,a=some ⟨bk,off,none⟩/\∀(i:Nat) x,xs[i]? =some x->∃ws,p.r E ws x/\At E bk (off+i*p.n) ws)
theorem An.M{α:Type}{p:Rp α}{E E':LH}{a:Option Addr}{c:Nat}{xs:List α}(h:An p E a c xs)(hle:Le E E'):An p E' a c xs:=
 ⟨h.1,h.2.imp id λ⟨bk,off,K,O⟩=>⟨bk,off,K,λi x U=>let ⟨ws,Y,Z⟩:=O i x U;⟨ws,p.M hle Y,Z.M hle⟩⟩⟩
theorem An.nil{α:Type}{p:Rp α}{E:LH}{c:Nat}:An p E none c []:=⟨Nat.zero_le _,.inl ⟨V,λ_ h=>by cases h⟩⟩
def rL{α:Type}(p:Rp α):Rp (List α):=⟨1,λE ws xs=>∃a c,ws= [.slice a xs.length c]/\An p E a c xs,
 λhle ⟨a,c,h,K⟩=>⟨a,c,h,K.M hle⟩,λ⟨a,c,h,K⟩=>by subst h;rfl,λ⟨a,c,h,K⟩ w hw=>by subst h;simp at hw;subst hw;rfl⟩
def rV:Rp Value:=⟨1,λ_ ws x=>ws= [x]/\Dv x=true,λ_ h=>h,λh=>by rw [h.1];rfl,λh w hw=>by rw [h.1] at hw;simp at hw;subst hw;exact h.2⟩
def rA{α:Type}(k:Nat)(p:Rp α):Rp (List α):=⟨k*p.n,λE ws xs=>xs.length=k/\∃wss:List (Lv_),ws=wss.flatten/\wss.length=k/\∀(i:Nat) x us,xs[i]? =some x->wss[i]? =some us->p.r E us x,
 λhle ⟨U,wss,h,K,O⟩=>⟨U,wss,h,K,λi x us a b=>p.M hle (O i x us a b)⟩,
 λ{E ws xs} ⟨U,wss,h,K,O⟩=>by
  subst h
  have:∀(wss:List (Lv_)) (xs:List α),xs.length=wss.length->(∀(i:Nat) x us,xs[i]? =some x->wss[i]? =some us->p.r E us x)->wss.flatten.length=wss.length*p.n:=by
   intro wss
   induction wss with
   | nil=>intro xs _ _;simp
   | cons us wss Z=>
    intro xs Y h
    cases xs with
    | nil=>simp at Y
    | cons x xs=>
     rw [List.flatten_cons,List.length_append,p.len (h 0 x us rfl rfl),Z xs (by simpa using Y) (λi y u a b=>h (i+1) y u a b),List.length_cons,Nat.succ_mul,Nat.add_comm]
  rw [this wss xs (by omega) O,K],
 λ{E ws xs} ⟨U,wss,h,K,O⟩ w hw=>by
  subst h
  obtain⟨us,ac,hw⟩:=List.mem_flatten.1 hw
  obtain⟨i,hi⟩:=List.mem_iff_getElem?.1 ac
  have ag:i<xs.length:=by rw [U,← K];exact(List.getElem?_eq_some_iff.1 hi).1
  exact p.one (O i _ us (List.getElem?_eq_getElem ag) hi) w hw⟩
def ix{α:Type}(xs:List α)(i:Int):Option α:=if 0<=i then xs[i.toNat]? else none
theorem Gq{α:Type}{xs:List α}{i:Int}{x:α}(h:ix xs i=some x):∃m:Nat,i=m/\xs[m]? =some x:=by
 unfold ix at h;split at h
 ·exact⟨i.toNat,by omega,h⟩
 ·cases h
def Aw(x:Int):Option Int:=if -9223372036854775808<=x/\x<=9223372036854775807 then some x else none
theorem Lf{x y:Int}(h:Aw x=some y):y=x/\ -9223372036854775808<=x/\x<=9223372036854775807:=by
 unfold Aw at h;split at h
 ·rename_i hb;exact⟨(Option.some.inj h).symm,hb⟩
 ·cases h
theorem bind_some{α β:Type}{o:Option α}{f:α->Option β}{r:β}(h:o.bind f=some r):∃x,o=some x/\f x=some r:=by
 cases o with
 | none=>cases h
 | some x=>exact⟨x,rfl,h⟩
inductive Bo (S A:Type) where
 | more (s:S)
 | done (a:A)
def iter{S A:Type}(body:S->Option (Bo S A)):Nat->S->Option A
 | 0,_=>none
 | f+1,s=>match body s with
  | none=>none
  | some (.done a)=>some a
  | some (.more s')=>iter body f s'
theorem R7{S A:Type}{body:S->Option (Bo S A)}{f:Nat}{s:S}{a:A}(h:iter body (f+1) s=some a):∃st,body s=some st:=by
 simp only [iter] at h;cases hb:body s with
 | none=>rw [hb] at h;cases h
 | some st=>exact⟨st,rfl⟩
theorem R4{S A:Type}{body:S->Option (Bo S A)}{f:Nat}{s:S}{a K:A}(h:iter body (f+1) s=some a)(hb:body s=some (.done K)):K=a:=by
 simp only [iter,hb] at h;exact Option.some.inj h
theorem R5{S A:Type}{body:S->Option (Bo S A)}{f:Nat}{s s':S}{a:A}(h:iter body (f+1) s=some a)(hb:body s=some (.more s')):iter body f s'=some a:=by
 simp only [iter,hb] at h;exact h
abbrev Seg:=List (Nat×Obj)
def Al(E H:LH)(S:List Seg):St:=mk E H S.flatten
def As(E H:LH)(S:List Seg):Prop:=Nd E H S.flatten
theorem Nd.mem{E H:LH}:∀{B:List (Nat×Obj)} {b:Nat} {o:Obj},Nd E H B->(b,o)∈B->∃i:Nat,B[i]? =some (b,o):=λ_ h=>List.mem_iff_getElem?.1 h
theorem Nd.iff{E H:LH}:∀{B:List (Nat×Obj)},Nd E H B↔(B.map (·.1)).Nodup/\∀p∈B,E p.1=none/\H p.1=none
 | []=>by simp [Nd]
 | (b,o)::B=>by
  simp only [Nd,List.map_cons,List.nodup_cons,List.mem_cons,forall_eq_or_imp,Nd.iff (B:=B),List.mem_map,not_exists,not_and]
  constructor
  ·rintro⟨K,O,U,Y,Z⟩;exact⟨⟨U,Y⟩,⟨K,O⟩,Z⟩
  ·rintro⟨⟨U,Y⟩,⟨K,O⟩,Z⟩;exact⟨K,O,U,Y,Z⟩
theorem Nd.perm{E H:LH}{B B':List (Nat×Obj)}(h:Nd E H B)(K:B.Perm B'):Nd E H B':=by
 rw [Nd.iff] at h ⊢;exact⟨(K.map _).nodup_iff.1 h.1,λp O=>h.2 p (K.mem_iff.2 O)⟩
theorem Mi{E H:LH}{B B':List (Nat×Obj)}(h:Nd E H B)(K:B.Perm B'):Bc B H=Bc B' H:=by
 funext x;by_cases O:∃p∈B,p.1=x
 ·obtain⟨⟨b,o⟩,hm,rfl⟩:=O;obtain⟨i,hi⟩:=h.mem hm;obtain⟨j,U⟩:=(h.perm K).mem (K.mem_iff.1 hm);rw [Jo h hi,Jo (h.perm K) U]
 ·have key:∀{C:List (Nat×Obj)},(∀p∈C,p.1≠x)->Bc C H x=H x:=by
   intro C
   induction C with
   | nil=>intro _;rfl
   | cons p C Y=>
    intro hC;obtain⟨c,u⟩:=p;have Z:x≠c:=λe=>hC (c,u) (by simp) e.symm;simp only [Bc,if_neg Z];exact Y λp K=>hC p (List.mem_cons_of_mem _ K)
  rw [key λp K e=>O ⟨p,K,e⟩,key λp ac e=>O ⟨p,K.mem_iff.2 ac,e⟩]
theorem Fu{E H:LH}{B B':List (Nat×Obj)}(h:Nd E H B)(K:B.Perm B'):mk E H B=mk E H B':=by unfold mk;rw [Mi h K]
theorem EA{S:List Seg}{j:Nat}{seg seg':Seg}(h:S[j]? =some seg):S.flatten.Perm ((S.set j []).flatten++seg)/\(S.set j seg').flatten.Perm ((S.set j []).flatten++seg'):=by
 induction S generalizing j with
 | nil=>simp at h
 | cons x S K=>
  cases j with
  | zero=>
   simp at h;subst h;simp only [List.set_cons_zero,List.flatten_cons,List.nil_append];exact⟨List.perm_append_comm,List.perm_append_comm⟩
  | succ j=>
   simp at h;obtain⟨O,U⟩:=K h;simp only [List.set_cons_succ,List.flatten_cons,List.append_assoc];exact⟨O.append_left x,U.append_left x⟩
theorem GY{E H:LH}{S:List Seg}{j:Nat}{seg:Seg}(K:As E H S)(h:S[j]? =some seg):Al E H S=mk E H ((S.set j []).flatten++seg)/\Nd E H ((S.set j []).flatten++seg):=
 ⟨Fu K (EA (seg':=seg) h).1,Nd.perm K (EA (seg':=seg) h).1⟩
theorem I2{E H:LH}{S:List Seg}{j:Nat}{seg seg':Seg}(h:S[j]? =some seg)(K:Nd E H ((S.set j []).flatten++seg')):mk E H ((S.set j []).flatten++seg')=Al E H (S.set j seg')/\As E H (S.set j seg'):=
 ⟨Fu K (EA h).2.symm,Nd.perm K (EA h).2.symm⟩
theorem GX(S:List Seg)(seg:Seg):(S++ [seg]).flatten=S.flatten++seg:=by simp
theorem Fo{E H:LH}{S:List Seg}{seg:Seg}(K:Nd E H (S.flatten++seg)):mk E H (S.flatten++seg)=Al E H (S++ [seg])/\As E H (S++ [seg]):=by
 unfold Al As;rw [GX];exact⟨V,K⟩
theorem Ei{E H:LH}{S:List Seg}{j i bk:Nat}{seg:Seg}{o:Obj}(K:As E H S)(O:S[j]? =some seg)(hi:seg[i]? =some (bk,o)):(Al E H S).get bk=some o:=by
 have hm:(bk,o)∈S.flatten:=List.mem_flatten.2 ⟨seg,List.mem_of_getElem? O,List.mem_of_getElem? hi⟩;obtain⟨Y,U⟩:=K.mem hm;exact Px K U
theorem BS{E H:LH}{S:List Seg}{j bk off:Nat}{c:Av_}{e:TypeId}{f:Nat×Nat}{v:Value}{seg:Seg}(K:As E H S)(O:S[j]? =some ((bk,.cells c e f)::seg))(U:c[off]? =some v):(Al E H S).cell? ⟨bk,off,none⟩=some v:=by
 unfold St.cell?;rw [Ei (i:=0) K O rfl];exact U
theorem V3{E H:LH}{S:List Seg}{j bk off:Nat}{c:Av_}{e:TypeId}{f:Nat×Nat}{vs:Lv_}{seg:Seg}(K:As E H S)(O:S[j]? =some ((bk,.cells c e f)::seg))(U:∀i v,vs[i]? =some v->c[off+i]? =some v):∀i v,vs[i]? =some v->(Al E H S).cell? (Addr.add ⟨bk,off,none⟩ i)=some v:=λi v hi=>by
 rw [El rfl];exact BS K O (U i v hi)
def OL{α:Type}(e:TypeId)(p:Rp α)(E:LH)(a:Option Addr)(c:Nat)(seg:Seg)(xs:List α):Prop:=
 ∃wss:List (Lv_),GS e p.n a xs.length c seg wss.flatten/\wss.length=xs.length/\∀(i:Nat) x ws,xs[i]? =some x->wss[i]? =some ws->p.r E ws x
theorem OL.M{α:Type}{e:TypeId}{p:Rp α}{E E':LH}{a:Option Addr}{c:Nat}{seg:Seg}{xs:List α}(h:OL e p E a c seg xs)(hle:Le E E'):OL e p E' a c seg xs:=
 let ⟨wss,K,O,U⟩:=h;⟨wss,K,O,λi x ws Y hw=>p.M hle (U i x ws Y hw)⟩
theorem OL.nil{α:Type}{e:TypeId}{p:Rp α}{E:LH}:OL e p E none 0 [] []:=⟨[],GS.nil,V,λi x ws K=>by simp at K⟩
theorem It{α:Type}{p:Rp α}{E:LH}{wss:List (Lv_)}{xs:List α}(K:wss.length=xs.length)(h:∀(i:Nat) x ws,xs[i]? =some x->wss[i]? =some ws->p.r E ws x):∀ws∈wss,ws.length=p.n:=λws hw=>by
 obtain⟨i,hi⟩:=List.mem_iff_getElem?.1 hw
 have O:i<xs.length:=by rw [← K];exact(List.getElem?_eq_some_iff.1 hi).1
 exact p.len (h i _ ws (List.getElem?_eq_getElem O) hi)
theorem Kz{α:Type}{n:Nat}:∀{wss:List (List α)},(∀ws∈wss,ws.length=n)->∀{i:Nat} {ws:List α},wss[i]? =some ws->∀j w,ws[j]? =some w->wss.flatten[i*n+j]? =some w
 | [],_,_,_,h,_,_,_=>by simp at h
 | us::wss,O,0,ws,h,j,w,K=>by
  simp at h;subst h
  have:j<us.length:=(List.getElem?_eq_some_iff.1 K).1
  simp only [List.flatten_cons,Nat.zero_mul,Nat.zero_add]
  rw [List.getElem?_append_left this];exact K
 | us::wss,O,i+1,ws,h,j,w,K=>by
  simp at h
  have hu:us.length=n:=O us (by simp)
  simp only [List.flatten_cons]
  rw [List.getElem?_append_right (by rw [hu,Nat.succ_mul];omega)]
  have e:(i+1)*n+j - us.length=i*n+j:=by rw [hu,Nat.succ_mul];omega
  rw [e];exact Kz (λws hw=>O ws (List.mem_cons_of_mem _ hw)) h j w K
variable {ρ:Operand->Value}{z:Operand}{kd':IntKind}{m':Int}
section
variable {x:Operand}{v:Value}{m:Int}{a b:Nat}
theorem QY{a:Nat}:IntKind.u64.wrap (a:Int)=((a % 2 ^ 64:Nat):Int):=by
 simp only [IntKind.wrap,IntKind.bits,IntKind.signed];simp
theorem Yz(K:ρ x= .int .u64 (a:Int))(O:ρ y= .int .u64 (b:Int)):Yl P ⟨d,.binOp .add t x y u,ty,p,af,g⟩ ρ s (.int .u64 (((a+b) % 2 ^ 64:Nat):Int)):=by
 have h:=Yl.add (P:=P) (s:=s) (d:=d) (t:=t) (u:=u) (ty:=ty) (p:=p) (af:=af) (g:=g) K O;rw [show((a:Int)+(b:Int))=((a+b:Nat):Int) by omega,QY] at h;exact h
theorem N2(K:ρ x= .int .u64 (a:Int))(O:ρ y= .int .u64 (b:Int)):Yl P ⟨d,.binOp .mul t x y u,ty,p,af,g⟩ ρ s (.int .u64 (((a*b) % 2 ^ 64:Nat):Int)):=by
 have h:=Yl.mul (P:=P) (s:=s) (d:=d) (t:=t) (u:=u) (ty:=ty) (p:=p) (af:=af) (g:=g) K O;rw [show((a:Int)*(b:Int))=((a*b:Nat):Int) by rw [Int.natCast_mul],QY] at h;exact h
theorem NZ(K:ρ x= .int .u64 (a:Int))(O:ρ y= .int .u64 (b:Int)):Yl P ⟨d,.binOp .xor t x y u,ty,p,af,g⟩ ρ s (.int .u64 (((a ^^^ b) % 2 ^ 64:Nat):Int)):=by
 have h:=Yl.xor (P:=P) (s:=s) (d:=d) (t:=t) (u:=u) (ty:=ty) (p:=p) (af:=af) (g:=g) K O;have e:(BitVec.ofInt IntKind.u64.bits (a:Int) ^^^ BitVec.ofInt IntKind.u64.bits (b:Int)).toNat=(a ^^^ b) % 2 ^ 64:=by
  rw [Nat.xor_mod_two_pow];rw [BitVec.ofInt_natCast,BitVec.ofInt_natCast];show(BitVec.ofNat 64 a ^^^ BitVec.ofNat 64 b).toNat=_;rw [BitVec.toNat_xor,BitVec.toNat_ofNat,BitVec.toNat_ofNat]
 rw [e,QY,Nat.mod_mod] at h;exact h
theorem Zq(K:ρ x= .int .u64 (a:Int))(O:ρ y= .int .u64 (b:Int))(U:b≠0):Yl P ⟨d,.binOp .rem t x y u,ty,p,af,g⟩ ρ s (.int .u64 ((a % b:Nat):Int)):=by
 have h:=Yl.rem (P:=P) (s:=s) (d:=d) (t:=t) (u:=u) (ty:=ty) (p:=p) (af:=af) (g:=g) K O (by omega);rw [show(a:Int).tmod (b:Int)=((a % b:Nat):Int) from rfl] at h;exact h
theorem Lr(c:Nat)(K:ρ x= .int .u64 (a:Int))(O:ρ y= .int .u64 (c:Int))(U:c<=64):Yl P ⟨d,.binOp .shr t x y u,ty,p,af,g⟩ ρ s (.int .u64 ((a>>>c:Nat):Int)):=by
 have h:=Yl.shr (P:=P) (s:=s) (d:=d) (t:=t) (u:=u) (ty:=ty) (p:=p) (af:=af) (g:=g) K O (by omega);have e:min (c:Int).toNat IntKind.u64.bits=c:=by simp [IntKind.bits];omega
 rw [e,Int.fdiv_eq_ediv_of_nonneg _ (Int.pow_nonneg (by decide))] at h;have e2:(a:Int) / 2 ^ c=((a>>>c:Nat):Int):=by rw [Nat.shiftRight_eq_div_pow,Int.natCast_ediv];rfl
 rw [e2] at h;exact h
def Dm(m:Int):Nat:=(m % 2 ^ 64).toNat
def MO(a:Nat):Int:=IntKind.i64.wrap (a:Int)
theorem Yl.Dm(ht:P.underlying t=some (.int .i64))(hu:P.underlying u=some (.int .u64))(K:ρ x=iV m):Yl P ⟨d,.convert t u x,ty,p,af,g⟩ ρ s (.int .u64 ((Dm m:Nat):Int)):=by
 have h:=FI (P:=P) (s:=s) (d:=d) (ty:=ty) (p:=p) (af:=af) (g:=g) ht hu K
 have e:IntKind.u64.wrap m=((Pal.Dm m:Nat):Int):=by
  unfold Pal.Dm;simp only [IntKind.wrap,IntKind.bits,IntKind.signed];simp;omega
 rw [e] at h;exact h
theorem ah(ht:P.underlying t=some (.int .u64))(hu:P.underlying u=some (.int .i64))(K:ρ x= .int .u64 (a:Int)):Yl P ⟨d,.convert t u x,ty,p,af,g⟩ ρ s (iV (MO a)):=
 FI (P:=P) (s:=s) (d:=d) (ty:=ty) (p:=p) (af:=af) (g:=g) ht hu K
theorem FJ{r:Int}(K:ρ x=iV m)(O:ρ y=iV m')(h:Aw (m+m')=some r):Yl P ⟨d,.binOp .add t x y u,ty,p,af,g⟩ ρ s (iV r):=by
 obtain⟨rfl,hb⟩:=Lf h;exact Yn K O hb
theorem Ds{r:Int}(K:ρ x=iV m)(O:ρ y=iV m')(h:Aw (m - m')=some r):Yl P ⟨d,.binOp .sub t x y u,ty,p,af,g⟩ ρ s (iV r):=by
 obtain⟨rfl,hb⟩:=Lf h;exact Zi K O hb
theorem N3{r:Int}(K:ρ x=iV m)(O:ρ y=iV m')(h:Aw (m*m')=some r):Yl P ⟨d,.binOp .mul t x y u,ty,p,af,g⟩ ρ s (iV r):=by
 obtain⟨rfl,hb⟩:=Lf h;exact YK K O hb
theorem Hw{r:Int}(K:ρ x=iV m)(h:Aw (-m)=some r):Yl P ⟨d,.unOp .neg t x,ty,p,af,g⟩ ρ s (iV r):=by
 obtain⟨rfl,hb⟩:=Lf h;exact Zg K hb
theorem HX(K:ρ x= .int kd m)(O:ρ y= .int kd m'):Yl P ⟨d,.binOp .neq t x y u,ty,p,af,g⟩ ρ s (.bool (decide (m≠m'))):=by
 have h:=Yl.neq (P:=P) (s:=s) (d:=d) (t:=t) (u:=u) (ty:=ty) (p:=p) (af:=af) (g:=g) K O;simpa using h
theorem Lx{q:Prop} [Decidable q] (K:ρ x= .bool (decide q)):Yl P ⟨d,.unOp .not t x,ty,p,af,g⟩ ρ s (.bool (decide (¬q))):=by
 have h:=Yl.not (P:=P) (s:=s) (d:=d) (t:=t) (ty:=ty) (p:=p) (af:=af) (g:=g) K;simpa using h
theorem PC{K:Array (Nat×Operand)}:execOp ρ ⟨d,.build t K,ty,p,af,g⟩=(do pure (Next.value (← Instr.build t (K.map λ(j,x)=>(j,ρ x))))):=by
 simp only [execOp]
theorem Yl.build{z:Value}{O:Array Field}{K:Array (Nat×Operand)}{vs:List (Nat×Value)}{places:Array (Nat×Nat)}{cells:Av_}(Z:zeroOf P t=some z)(ht:P.underlying t=some (.struct O))(ac:O.toList.mapM (λf=>(Bv P f.type).map λn=>(f.offset,n))=some places.toList)
  (ag:K.toList.map (λ(j,x)=>(j,ρ x))=vs) (al:Instr.fill (places[·]?) z.cells vs=some cells):Yl P ⟨d,.build t K,ty,p,af,g⟩ ρ s (.agg cells):=by
 refine FQ PC ?_;unfold Instr.build;refine Az (x:=zeroValue t) _ (Hu Z ?_);refine Az _ _ (Cx ht ?_);simp only;have key:∀(l:List Field) (acc:List (Nat×Nat)) {Q:List (Nat×Nat)->St->Prop} {X:Halt->St->Prop} (K:List (Nat×Nat)),l.mapM (λf=>(Bv P f.type).map λn=>(f.offset,n))=some K->Q (acc.reverse++K) s->lp P (List.mapM.loop (m:=Sem) (λf=>do pure (f.offset,← Go.sizeOf f.type)) l acc) s Q X:=by
  intro l
  induction l with
  | nil=>
   intro acc Q X K h k;simp at h;subst h;simp only [List.append_nil] at k;exact k
  | cons f l am=>
   intro acc Q X K h k;simp only [List.mapM_cons,bind] at h;cases U:Bv P f.type with
   | none=>rw [U] at h;simp at h
   | some n=>
    rw [U] at h;simp only [Option.map_some,Option.bind_some] at h;obtain⟨ap,aq,Y⟩:=bind_some h;simp at Y;subst Y;have:=am ((f.offset,n)::acc) (Q:=Q) (X:=X) ap aq (by simpa using k);simp only [List.mapM.loop];exact Az _ _ (Az (x:=Go.sizeOf f.type) _ (Fb U this))
 have e:(K.map λ(j,x)=>(j,ρ x)).toList=vs:=by rw [← ag,Array.toList_map]
 refine Az _ _ ?_;rw [Array.mapM_eq_mapM_toList];refine Az (x:=List.mapM.loop (m:=Sem) (λf=>do pure (f.offset,← Go.sizeOf f.type)) O.toList []) (f:=λr=>pure r.toArray) (key O.toList [] places.toList ac ?_)
 simp only [List.reverse_nil,List.nil_append,lp,pure];rw [e,al];exact⟨V,V⟩
end
variable {S:List Seg}
section
variable {b:Frame}{n:Nat}
variable {x:Operand}{v:Value}{i:Nat}
theorem JS.box(O:ops[i]? =some ⟨d,.box e x,ty,p,af,g⟩)(hw:AY L ops ⟨d,.box e x,ty,p,af,g⟩=some true)(U:BY b n ⟨d,.box e x,ty,p,af,g⟩=true)(Y:As E H S)(Z:ev L x=some v)
  (h:∀r,As E H (S++ [[(r,.cells v.cells e (0,0))]])->JL J Q b n (AB L d (.pointer (some ⟨r,0,none⟩))) ds (.inRegion ops rest::k) cs (Al E H (S++ [[(r,.cells v.cells e (0,0))]]))):
  JL J Q b n L ds (.inRegion ops (i::rest)::k) cs (Al E H S):=
 JL.box O hw U Y Z λr K=>by rw [(Fo K).1];exact h r (Fo K).2
theorem JS.alloc{z:Value}(O:ops[i]? =some ⟨d,.alloc e,ty,p,af,g⟩)(hw:AY L ops ⟨d,.alloc e,ty,p,af,g⟩=some true)(U:BY b n ⟨d,.alloc e,ty,p,af,g⟩=true)(Y:As E H S)(Z:zeroOf P e=some z)
  (h:∀r,As E H (S++ [[(r,.cells z.cells e (0,0))]])->JL J Q b n (AB L d (.pointer (some ⟨r,0,none⟩))) ds (.inRegion ops rest::k) cs (Al E H (S++ [[(r,.cells z.cells e (0,0))]]))):
  JL J Q b n L ds (.inRegion ops (i::rest)::k) cs (Al E H S):=
 JL.alloc O hw U Y Z λr K=>by rw [(Fo K).1];exact h r (Fo K).2
theorem JS.store{bk off:Nat}{c:Av_}(j:Nat)(U:ops[i]? =some ⟨d,.store t x y,ty,p,af,g⟩)(hw:AY L ops ⟨d,.store t x y,ty,p,af,g⟩=some true)(Y:BY b n ⟨d,.store t x y,ty,p,af,g⟩=true)(Z:As E H S)
  (ac:ev L x=some (.pointer (some ⟨bk,off,none⟩))) (ag:ev L y=some v) (al:Bv P t=some v.cells.size) (am:∀u∈v.cells.toList,Dv u=true) (K:S[j]? =some [(bk,.cells c e (0,0))]) (hle:off+v.cells.size<=c.size)
  (h:As E H (S.set j [(bk,.cells (Be c off v.cells.toList) e (0,0))])->JL J Q b n (AB L d undef) ds (.inRegion ops rest::k) cs (Al E H (S.set j [(bk,.cells (Be c off v.cells.toList) e (0,0))]))):
  JL J Q b n L ds (.inRegion ops (i::rest)::k) cs (Al E H S):=by
 obtain⟨ap,aq⟩:=GY Z K;rw [ap];refine JL.store (S.set j []).flatten.length U hw Y aq ac ag al am (c:=c) (e:=e) (by simp) hle λO=>?_;have av:((S.set j []).flatten++ [(bk,Obj.cells c e (0,0))]).set (S.set j []).flatten.length (bk,.cells (Be c off v.cells.toList) e (0,0))=(S.set j []).flatten++ [(bk,.cells (Be c off v.cells.toList) e (0,0))]:=Ju _ _ _ _;rw [av] at O ⊢;obtain⟨aw,ay⟩:=I2 K O;rw [aw];exact h ay
theorem JS.drop{todo:Li_}{seg:Seg}(j:Nat)(Y:As E H S)(K:S[j]? =some seg)(h:As E H (S.set j [])->JL J Q b n L ds todo cs (Al E H (S.set j []))):JL J Q b n L ds todo cs (Al E H S):=by
 obtain⟨Z,O⟩:=GY Y K;rw [Z];have ac:Nd E H ((S.set j []).flatten++ []):=by rw [List.append_nil];exact JU.Nd.left O
 obtain⟨U,ag⟩:=I2 (seg':= []) K ac;refine JL.drop (S.set j []).flatten (λq al=>List.mem_iff_getElem?.1 (List.mem_append_left _ al)) O ?_;have am:(S.set j []).flatten++ []=(S.set j []).flatten:=List.append_nil _;rw [am] at U;rw [U];exact h ag
theorem DO{todo:Li_}{bk:Nat}{c:Av_}{f:Nat×Nat}(j:Nat)(O:As E H S)(U:S[j]? =some [(bk,.cells c e f)])
  (h:∀E',Le E E'->At E' bk 0 c.toList->As E' H (S.set j [])->JL J Q b n L ds todo cs (Al E' H (S.set j []))):JL J Q b n L ds todo cs (Al E H S):=by
 obtain⟨Y,Z⟩:=GY O U;rw [Y];have ac:((S.set j []).flatten++ [(bk,Obj.cells c e f)])[(S.set j []).flatten.length]? =some (bk,Obj.cells c e f):=by simp
 refine JL.freeze (S.set j []).flatten.length Z ac λE' hle ag K=>?_;have al:((S.set j []).flatten++ [(bk,Obj.cells c e f)]).eraseIdx (S.set j []).flatten.length=(S.set j []).flatten:=by rw [List.eraseIdx_append_of_length_le (Nat.le_refl _)];simp
 rw [al] at K ⊢;exact h E' hle ⟨_,_,_,ag,λi w hi=>by simpa using hi⟩ K
theorem BI{α:Type}{pp:Rp α}{todo:Li_}{a:Option Addr}{c:Nat}{seg:Seg}{xs:List α}(j:Nat)(hg:OL e pp E a c seg xs)(al:As E H S)(am:S[j]? =some seg)
  (h:∀E',Le E E'->An pp E' a c xs->As E' H (S.set j [])->JL J Q b n L ds todo cs (Al E' H (S.set j []))):JL J Q b n L ds todo cs (Al E H S):=by
 obtain⟨wss,hg,Z,ac⟩:=hg;have ap:∀ad:Addr,a=some ad->ad.spot=none:=λad K=>by
  rcases hg with⟨O,_⟩ | ⟨bk,f,O,_⟩
  ·rw [O] at K;cases K
  ·rw [O] at K;cases K;rfl
 obtain⟨O,aq⟩:=GY al am;rw [O];refine Vu hg aq λE' hle av aw=>h E' hle ?_ aw;obtain⟨ay,az,U,a0,a5,Y⟩:=av;obtain⟨rfl,-,rfl⟩:a=ay/\xs.length=xs.length/\c=az:=by
  simp only [Value.slice.injEq] at U;exact⟨U.1,V,U.2.2⟩
 refine⟨a0,?_⟩;rcases Y with Y | ⟨bk,off,f,a1,fr,a2,g2,a3⟩
 ·exact .inl ⟨List.eq_nil_of_length_eq_zero Y,λad K=> .inl (ap ad K)⟩
 ·refine .inr ⟨bk,off,a2,λi x ag=>?_⟩;have a4:i<wss.length:=by rw [Z];exact(List.getElem?_eq_some_iff.1 ag).1
  have hw:=List.getElem?_eq_getElem a4;refine⟨wss[i],pp.M hle (ac i x _ ag hw),f,a1,fr,g2,λm w hm=>?_⟩;rw [Nat.add_assoc];exact a3 _ w (Kz (It Z ac) hw m w hm)
theorem Vy{α:Type}{pp:Rp α}{wss:List (Lv_)}{xs:List α}{x:α}{ws:Lv_}(O:wss.length=xs.length)(h:∀(i:Nat) x ws,xs[i]? =some x->wss[i]? =some ws->pp.r E ws x)(U:pp.r E ws x):
  ∀(i:Nat) y us,(xs++ [x])[i]? =some y->(wss++ [ws])[i]? =some us->pp.r E us y:=by
 intro i y us K hu;rcases Nat.lt_or_ge i xs.length with hi | hi
 ·rw [List.getElem?_append_left hi] at K;rw [List.getElem?_append_left (by omega)] at hu;exact h i y us K hu
 ·rw [List.getElem?_append_right hi] at K;rw [List.getElem?_append_right (by omega),O] at hu;cases hm:i - xs.length with
  | zero=>rw [hm] at K hu;simp at K hu;subst K hu;exact U
  | succ m=>rw [hm] at K;simp at K
theorem VK{α:Type}{pp:Rp α}{t1 t2:TypeId}{U c:Nat}{a:Option Addr}{seg:Seg}{xs:List α}{xv:α}{al:Nat}{d1:Tmp}{ats:Array TypeId}{Y:TypeId}{Z:String}{ac:Ae_}{g':On_}{z:Value}(j:Nat)
  (aq:ops[i]? =some ⟨some d1,.buildSlice t2 1 #[(0,y)],Y,Z,ac,g'⟩) (hw:AY L ops ⟨some d1,.buildSlice t2 1 #[(0,y)],Y,Z,ac,g'⟩=some true) (av:BY b n ⟨some d1,.buildSlice t2 1 #[(0,y)],Y,Z,ac,g'⟩=true)
  (aw:ops[al]? =some ⟨d,.call ⟨.builtin .append,#[x,.tmp d1],ats⟩,ty,p,af,g⟩) (ay:∀w,AY (AB L (some d1) w) ops ⟨d,.call ⟨.builtin .append,#[x,.tmp d1],ats⟩,ty,p,af,g⟩=some true) (az:BY b n ⟨d,.call ⟨.builtin .append,#[x,.tmp d1],ats⟩,ty,p,af,g⟩=true)
  (a0:∀w,ev (AB L (some d1) w) x=some (.slice a xs.length c)) (a1:ev L y=some v) (a2:ats[0]? =some t) (a3:ats[1]? =some t1) (ht:P.underlying t=some (.slice e)) (a4:P.underlying t1=some (.slice e)) (a5:P.underlying t2=some (.slice e)) (a6:Bv P e=some pp.n) (hb:F0 P e=some U) (a7:zeroOf P e=some z) (a8:z.cells.size=pp.n)
  (a9:0<U) (bb:U<=64) (be:0<pp.n) (bi:pp.n<=64) (bn:xs.length+1<=2 ^ 40) (hg:OL e pp E a c seg xs) (ag:pp.r E v.cells.toList xv) (bo:As E H S) (am:S[j]? =some seg)
  (h:∀w K O seg',OL e pp E K O seg' (xs++ [xv])->As E H (S.set j seg')->JL J Q b n (AB (AB L (some d1) w) d (.slice K (xs++ [xv]).length O)) ds (.inRegion ops rest::k) cs (Al E H (S.set j seg'))):
  JL J Q b n L ds (.inRegion ops (i::al::rest)::k) cs (Al E H S):=by
 obtain⟨wss,hg,ap,bv⟩:=hg;obtain⟨bw,bx⟩:=GY bo am;rw [bw];have bz:v.cells.size=pp.n:=by simpa using pp.len ag
 refine V1 aq hw av aw ay az a0 a1 a2 a3 ht a4 a5 a6 hb a7 a8 a9 bb bz be bi bn (pp.one ag) hg bx λw K O b0 b1 b2=>?_;obtain⟨b3,b4⟩:=I2 am b2;rw [b3];have hlen:(xs++ [xv]).length=xs.length+1:=by simp
 have:=h w K O b0 ⟨wss++ [v.cells.toList],by rw [hlen,List.flatten_append];simpa using b1,by simp [ap],Vy ap bv ag⟩ b4;rw [hlen] at this;exact this
theorem Te{α:Type}{pp:Rp α}{a:Option Addr}{c:Nat}{xs:List α}{xv:α}{m:Int}(O:An pp E a c xs)(hm:ix xs m=some xv)
  (U:ops[i]? =some ⟨d,.indexAddr t x y,ty,p,af,g⟩) (hw:AY L ops ⟨d,.indexAddr t x y,ty,p,af,g⟩=some true) (Y:BY b n ⟨d,.indexAddr t x y,ty,p,af,g⟩=true)
  (Z:ev L x=some (.slice a xs.length c)) (ac:ev L y=some (.int kd m)) (ht:P.underlying t=some (.slice e)) (ag:Bv P e=some pp.n)
  (h:∀bk o ws,pp.r E ws xv->At E bk o ws->JL J Q b n (AB L d (.pointer (some ⟨bk,o,none⟩))) ds (.inRegion ops rest::k) cs (Al E H S)):
  JL J Q b n L ds (.inRegion ops (i::rest)::k) cs (Al E H S):=by
 obtain⟨m,rfl,hm⟩:=Gq hm;have al:m<xs.length:=(List.getElem?_eq_some_iff.1 hm).1;obtain⟨av,⟨rfl,_⟩ | ⟨bk,off,rfl,am⟩⟩:=O
 ·simp at al
 obtain⟨ws,ap,aq⟩:=am m xv hm;refine Bf (v:= .pointer (some ⟨bk,off+m*pp.n,none⟩)) U hw Y (λρ K=>?_) (h bk _ ws ap aq);have:=No (P:=P) (s:=Al E H S) (d:=d) (ty:=ty) (p:=p) (af:=af) (g:=g) ht ag (K x _ Z) (K y _ ac) ⟨by omega,by omega⟩;rw [El rfl] at this;simpa using this
theorem At.LV{bk o j:Nat}{ws:Lv_}{w:Value}(h:At E bk o ws)(K:ws[j]? =some w):(Al E H S).cell? ⟨bk,o+j,none⟩=some w:=h.cell K
theorem At.QC{bk o:Nat}{ws:Lv_}(h:At E bk o ws):∀j v,ws[j]? =some v->(Al E H S).cell? (Addr.add ⟨bk,o,none⟩ j)=some v:=h.cells
theorem Bs{todo:Li_}(I:Env->St->Prop){c:Code}(K:∀L s,I L s->JL J Q b n L ds todo cs s)(h:(∀L s,I L s->JL J Q b n L ds todo cs s)->JL J Q b n L ds (.code c::todo) cs s):JL J Q b n L ds (.code c::todo) cs s:=h K
theorem F6{K:List Nat}{todo:Li_}(l:List Nat)(I:Env->St->Prop)(O:∀L s,I L s->JL J Q b n L ds (.inRegion ops l::todo) cs s)(h:(∀L s,I L s->JL J Q b n L ds (.inRegion ops l::todo) cs s)->JL J Q b n L ds (.inRegion ops K::todo) cs s):JL J Q b n L ds (.inRegion ops K::todo) cs s:=h O
theorem SO{K A:Type}{c:Code}{body:K->Option (Bo K A)}{f:Nat}{O:K}{a:A}(U:iter body f O=some a)(I:Env->St->K->Prop)(Z:I L s O)
  (round:∀L s x,I L s x->(∀Y,body x=some (.done Y)->Y=a)->(∃st,body x=some st)->(∀L' s' x',I L' s' x'->body x=some (.more x')->JL J Q b n L' ds (.inLoop c::k) cs s')->JL J Q b n L ds (.code c:: .inLoop c::k) cs s):
  JL J Q b n L ds (.code (.loop c)::k) cs s:=by
 refine IV ?_
 induction f generalizing L s O with
 | zero=>cases U
 | succ f ac=>
  refine round L s O Z (λY h=>R4 U h) (R7 U) λL' s' x' ag hb=>JL.again (ac (R5 U hb) ag)
def AP(J:Judge P)(f:FuncId)(args:Lv_)(E:LH)(B:Seg)(R:Value->LH->Seg->Prop):Prop:=
 ∀H,Nd E H B->Fa J f args.toArray (mk E H B) (λv s'=>∃E' B',Le E E'/\R v E' B'/\Nd E' H B'/\s'=mk E' H B')
theorem AP.enter{f:FuncId}{fn:Func}{c:Code}{vs:Lv_}{B:Seg}{R:Value->LH->Seg->Prop}(O:P.funcs[f]? =some fn)(hb:fn.body=some c)(U:vs.length<=fn.ntmps)
  (h:∀(Q:Gs_) (K:Frame) (cs:Lf_) (H:LH),As E H [B]->(∀v E' S' B',Le E E'->S'.flatten=B'->R v E' B'->As E' H S'->J.ok Q (G (K.finish v) cs) (Al E' H S'))->JL J Q (base f) fn.ntmps (GG 0 vs) [] [.code c] (K::cs) (Al E H [B])):AP J f vs E B R:=λH Y=>
 Fa.enter O hb U λQ K cs Z=>by
  have ac:mk E H B=Al E H [B]:=by unfold Al;simp
  rw [ac];exact h Q K cs H (by unfold As;simpa using Y) λv E' S' B' hle ag al am=>by
   subst ag;exact Z v _ ⟨E',S'.flatten,hle,al,am,rfl⟩
theorem AP.M{f:FuncId}{vs:Lv_}{B:Seg}{R K:Value->LH->Seg->Prop}(h:AP J f vs E B R)(U:∀v E' B',Le E E'->R v E' B'->K v E' B'):AP J f vs E B K:=λH Y=>
 (h H Y).M λv s' ⟨E',B',O,Z,ac,ag⟩=>⟨E',B',O,U v E' B' O Z,ac,ag⟩
theorem F5{H:LH}:∀{A B:List (Nat×Obj)},Bc (A++B) H=Bc A (Bc B H)
 | [],_=>rfl
 | (c,o)::A,B=>by
  funext x
  simp only [List.cons_append,Bc]
  split
  ·rfl
  ·rw [F5]
theorem Mm{H:LH}{x:Nat}:∀{B:List (Nat×Obj)},(∀p∈B,p.1≠x)->Bc B H x=H x
 | [],_=>rfl
 | (c,u)::B,K=>by
  have O:x≠c:=λe=>K (c,u) (by simp) e.symm
  simp only [Bc,if_neg O]
  exact Mm λp U=>K p (List.mem_cons_of_mem _ U)
theorem Nd.front{A B:List (Nat×Obj)}(h:Nd E H (A++B)):Nd E (Bc B H) A:=by
 rw [Nd.iff] at h ⊢;obtain⟨K,U⟩:=h;rw [List.map_append,List.nodup_append] at K;refine⟨K.1,λq O=>⟨(U q (List.mem_append_left _ O)).1,?_⟩⟩;rw [Mm λr Y e=>K.2.2 q.1 (List.mem_map_of_mem O) r.1 (List.mem_map_of_mem Y) e.symm];exact(U q (List.mem_append_left _ O)).2
theorem Nd.glue{A B:List (Nat×Obj)}(h:Nd E (Bc B H) A)(U:Nd E H B):Nd E H (A++B):=by
 have Y:=U;rw [Nd.iff] at h U ⊢;rw [List.map_append,List.nodup_append];have key:∀q∈A,∀r∈B,q.1≠r.1:=λq K r O e=>by
  have:=(h.2 q K).2;rw [e] at this;obtain⟨i,hi⟩:=Y.mem (b:=r.1) (o:=r.2) O;rw [Jo Y hi] at this;cases this
 refine⟨⟨h.1,U.1,λx Z y ac e=>?_⟩,λq K=>?_⟩
 ·obtain⟨q,K,rfl⟩:=List.mem_map.1 Z;obtain⟨r,O,rfl⟩:=List.mem_map.1 ac;exact key q K r O e
 ·rcases List.mem_append.1 K with K | K
  ·refine⟨(h.2 q K).1,?_⟩;have:=(h.2 q K).2
   rwa [Mm λr O e=>key q K r O e.symm] at this
  ·exact U.2 q K
theorem SC{f:FuncId}{args:Array Operand}{ats:Array TypeId}{vs:Lv_}{seg:Seg}{R:Value->LH->Seg->Prop}(j:Nat)
  (ag:AP J f vs E seg R) (al:ops[i]? =some ⟨d,.call ⟨.value (.func f),args,ats⟩,ty,p,af,g⟩) (hw:AY L ops ⟨d,.call ⟨.value (.func f),args,ats⟩,ty,p,af,g⟩=some true) (am:((b.kind != .early)&&Br n d)=true) (hb:Em P f=true)
  (ap:evs L args.toList=some vs) (K:As E H S) (O:S[j]? =some seg) (aq:∀v E' seg',Le E E'->R v E' seg'->As E' H (S.set j seg')->JL J Q b n (AB L d v) ds (.inRegion ops rest::k) cs (Al E' H (S.set j seg'))):
  JL J Q b n L ds (.inRegion ops (i::rest)::k) cs (Al E H S):=by
 have U:S.flatten.Perm (seg++(S.set j []).flatten):=(EA (seg':=seg) O).1.trans List.perm_append_comm;have Y:Nd E H (seg++(S.set j []).flatten):=Nd.perm K U;have av:Al E H S=mk E (Bc (S.set j []).flatten H) seg:=by
  rw [show Al E H S=mk E H S.flatten from rfl,Fu K U];unfold mk;rw [F5]
 rw [av];refine Ye al hw am hb ap (ag _ (Nd.front Y)) ?_;rintro v s' ⟨E',B',hle,aw,ay,rfl⟩;have e2:mk E' (Bc (S.set j []).flatten H) B'=mk E' H (B'++(S.set j []).flatten):=by unfold mk;rw [F5]
 have az:Nd E H (S.set j []).flatten:=by
  have:=Y;rw [Nd.iff] at this ⊢;rw [List.map_append,List.nodup_append] at this;exact⟨this.1.2.1,λq a0=>this.2 q (List.mem_append_right _ a0)⟩
 refine TR V λ⟨w,a1⟩=>?_;have a2:Nd E' H (S.set j []).flatten:=az.grow λx a3=>by
  have a4:=a1.d x a3;have a5:Bc B' (Bc (S.set j []).flatten H) x=none:=a4;exact(HS a5).1
 have Z:Nd E' H (B'++(S.set j []).flatten):=Nd.glue ay a2;rw [e2];have ac:(B'++(S.set j []).flatten).Perm (S.set j B').flatten:=List.perm_append_comm.trans (EA O).2.symm;rw [Fu Z ac];exact aq v E' B' hle aw (Nd.perm Z ac)
theorem JS.call{f:FuncId}{args:Array Operand}{ats:Array TypeId}{vs:Lv_}{R:Value->LH->Seg->Prop}
  (U:AP J f vs E [] R) (Y:ops[i]? =some ⟨d,.call ⟨.value (.func f),args,ats⟩,ty,p,af,g⟩) (hw:AY L ops ⟨d,.call ⟨.value (.func f),args,ats⟩,ty,p,af,g⟩=some true) (Z:((b.kind != .early)&&Br n d)=true) (hb:Em P f=true)
  (ac:evs L args.toList=some vs) (K:As E H S) (ag:∀v E' seg',Le E E'->R v E' seg'->As E' H (S++ [seg'])->JL J Q b n (AB L d v) ds (.inRegion ops rest::k) cs (Al E' H (S++ [seg']))):
  JL J Q b n L ds (.inRegion ops (i::rest)::k) cs (Al E H S):=by
 have al:Al E H S=Al E H (S++ [[]]):=by unfold Al;simp
 rw [al];refine SC S.length U Y hw Z hb ac (by unfold As at K ⊢;rw [GX,List.append_nil];exact K) (by simp) λv E' seg' hle am O=>?_;have e2:(S++ [[]]).set S.length seg'=S++ [seg']:=Ju _ _ _ _;rw [e2] at O ⊢;exact ag v E' seg' hle am O
theorem Ir{todo:Li_}{S':List Seg}(K:S'.flatten=S.flatten)(O:As E H S)(h:As E H S'->JL J Q b n L ds todo cs (Al E H S')):JL J Q b n L ds todo cs (Al E H S):=by
 unfold Al As at*;rw [K] at h;exact h O
end
def Ld(P:Program)(t:TypeId)(a:Addr)(s:St)(v:Value):Prop:=lp P (loadVar t a) s (λu s'=>u=v/\s'=s) (λ_ _=>False)
theorem Ld.one{P:Program}{t:TypeId}{a:Addr}{s:St}{v:Value}(ht:Dc P t=some false)(h:s.cell? a=some v):Ld P t a s v:=Rv ht h ⟨V,V⟩
theorem Ld.many{P:Program}{t:TypeId}{a:Addr}{s:St}{vs:Lv_}(ht:Dc P t=some true)(K:Bv P t=some vs.length)(h:∀j v,vs[j]? =some v->s.cell? (a.add j)=some v):Ld P t a s (.agg vs.toArray):=Rq ht K h ⟨V,V⟩
def RV(P:Program)(L:Env)(s:St):List ResultVar->Lv_->Prop
 | [],[]=>True
 | .tmp t::rs,v::vs=>look L t=some v/\RV P L s rs vs
 | .cell a t::rs,v::vs=>(∃ad,look L a=some (.pointer (some ad))/\Ld P t ad s v)/\RV P L s rs vs
 | _,_=>False
def N5:Lv_->Value
 | [v]=>v
 | vs=> .tuple vs.toArray
theorem V7(vs:Lv_):(if h:vs.toArray.size=1 then vs.toArray[0] else Value.tuple vs.toArray)=N5 vs:=by
 match vs with
 | []=>rfl
 | [v]=>rfl
 | a::b::c=>simp [N5]
theorem BH.list{P:Program}{f:FuncId}{fn:Func}{n:Nat}{L:Env}{s:St}{rs:List ResultVar}{vs:Lv_}(Z:P.funcs[f]? =some fn)(ac:fn.results.toList=rs)(h:RV P L s rs vs):BH P f L n s (N5 vs):=by
 refine⟨fn,Z,λT U=>?_⟩;unfold results;rw [Array.mapM_eq_mapM_toList,ac];have key:∀(rs:List ResultVar) (acc vs:Lv_) {Q:Lv_->St->Prop} {X:Halt->St->Prop},RV P L s rs vs->Q (acc.reverse++vs) s->lp P (List.mapM.loop (m:=Sem) (λr=>match r with
   | .tmp t=>pure (T.getD t undef)
   | .cell a t=>do loadVar t (← asAddr (T.getD a undef))) rs acc) s Q X:=by
  intro rs
  induction rs with
  | nil=>
   intro acc vs Q X h k;cases vs with
   | nil=>simp only [List.append_nil] at k;exact k
   | cons v vs=>cases h
  | cons r rs Y=>
   intro acc vs Q X h k;cases vs with
   | nil=>cases r <;> cases h
   | cons v vs=>
    cases r with
    | tmp t=>
     obtain⟨K,O⟩:=h;have:=U.at_ t v K;simp only [List.mapM.loop];rw [this];exact Y (v::acc) vs O (by simpa using k)
    | cell a t=>
     obtain⟨⟨ad,K,ag⟩,O⟩:=h;have:=U.at_ a _ K;simp only [List.mapM.loop];rw [this];refine Az _ _ (EH _ (show lp P (loadVar t ad) s _ _ from ag) ?_ (λ_ _ h=>h.elim));rintro u s' ⟨rfl,rfl⟩;exact Y (u::acc) vs O (by simpa using k)
 refine Az _ _ (Az (x:=List.mapM.loop (m:=Sem) _ rs []) (f:=λr=>pure r.toArray) ?_);refine key rs [] vs h ?_;simp only [List.reverse_nil,List.nil_append,lp,pure];exact⟨V7 vs,trivial⟩
section
variable {g:Goroutine}
theorem Du{seg:Seg}(j:Nat)(Z:As E H S)(U:S[j]? =some seg)(h:As E H (S.set j [])->J.ok Q g (Al E H (S.set j []))):J.ok Q g (Al E H S):=by
 obtain⟨ac,K⟩:=GY Z U;have ag:Nd E H ((S.set j []).flatten++ []):=by rw [List.append_nil];exact JU.Nd.left K
 obtain⟨aq,al⟩:=I2 (seg':= []) U ag;refine J.ghost (s₀:=Al E H (S.set j [])) ⟨λ_ _ h=>h,λx o am=>?_,λ_ _ h=> .inl h,V⟩ (h al);have Y:Bc (S.set j []).flatten H x=some o:=am;show(Al E H S).H x=some o;rw [ac];show Bc ((S.set j []).flatten++seg) H x=some o;rw [show Bc ((S.set j []).flatten++seg) H=Bc (seg++(S.set j []).flatten) H from Mi K List.perm_append_comm,F5];by_cases hm:∃p∈seg,p.1=x
 ·exfalso;obtain⟨p,O,e⟩:=hm;have ap:=Nd.front (Nd.perm K List.perm_append_comm);have:=((Nd.iff.1 ap).2 p O).2;rw [e,Y] at this;cases this
 ·rw [Mm λp O e=>hm ⟨p,O,e⟩];exact Y
end
section
variable {b:Frame}{n:Nat}
variable {x:Operand}{v:Value}{i:Nat}
theorem Pz{ρ:Operand->Value}{len:Nat}{K:Array (Nat×Operand)}:execOp ρ ⟨d,.buildSlice t len K,ty,p,af,g⟩=(do pure (Next.value (← Instr.buildSlice t len (K.map λ(j,x)=>(j,ρ x))))):=by
 simp only [execOp]
theorem V0(v:Av_)(off:Nat)(c:Av_):v.zipIdx.foldl (λcs (x,j)=>cs.setIfInBounds (off+j) x) c=Be c off v.toList:=by
 rw [← Array.foldl_toList,Array.toList_zipIdx];have key:∀(l:Lv_) (st:Nat) (c:Av_),List.foldl (λcs (p:Value×Nat)=>cs.setIfInBounds (off+p.2) p.1) c (l.zipIdx st)=Be c (off+st) l:=by
  intro l
  induction l with
  | nil=>intro st c;rfl
  | cons x l K=>intro st c;simp only [List.zipIdx_cons,List.foldl_cons,Be];rw [K];rfl
 exact key v.toList 0 c
def KL(place:Nat->Option (Nat×Nat))(cells:Av_):List (Nat×Value)->Option (Av_)
 | []=>some cells
 | (i,v)::rest=>match place i with
  | none=>none
  | some (off,size)=>if v.cells.size=size/\off+v.cells.size<=cells.size then KL place (Be cells off v.cells.toList) rest else none
theorem fill_eq{place:Nat->Option (Nat×Nat)}:∀{vs:List (Nat×Value)} {cells:Av_},Instr.fill place cells vs=KL place cells vs
 | [],_=>rfl
 | (i,v)::rest,cells=>by
  simp only [Instr.fill,KL]
  cases place i with
  | none=>rfl
  | some q=>
   obtain⟨off,size⟩:=q
   simp only
   by_cases h:v.cells.size=size/\off+v.cells.size<=cells.size
   ·rw [if_pos h,if_neg (by simp only [Bool.or_eq_true,decide_eq_true_eq,ne_eq];omega),fill_eq,V0]
   ·rw [if_neg h,if_pos (by simp only [Bool.or_eq_true,decide_eq_true_eq,ne_eq];omega)]
theorem Sk{n:Nat}:∀(vs:Lv_) (st:Nat) (cells:Av_),(∀v∈vs,v.cells.size=n)->cells.size=(st+vs.length)*n->
  ∃O,KL (λi=>some (i*n,n)) cells ((vs.zipIdx st).map λq=>(q.2,q.1))=some O/\O.toList=cells.toList.take (st*n)++(vs.map (·.cells.toList)).flatten
 | [],st,cells,_,hs=>⟨cells,rfl,by simp only [List.length_nil,Nat.add_zero] at hs;simp [← hs,List.take_of_length_le]⟩
 | v::vs,st,cells,U,hs=>by
  have K:=U v (by simp)
  have hle:st*n+n<=cells.size:=by
   rw [hs,List.length_cons];have:(st+1)*n<=(st+(vs.length+1))*n:=Nat.mul_le_mul_right _ (by omega);rw [Nat.succ_mul] at this;exact this
  obtain⟨Y,Z,ac⟩:=Sk vs (st+1) (Be cells (st*n) v.cells.toList) (λu hu=>U u (List.mem_cons_of_mem _ hu)) (by rw [Mh,hs,List.length_cons];congr 1;omega);refine⟨Y,?_,?_⟩
  ·simp only [List.zipIdx_cons,List.map_cons,KL];rw [if_pos ⟨K,by omega⟩];exact Z
  ·rw [ac,Nat.succ_mul];have:=Pk cells (st*n) v.cells.toList (by simp [K];omega);rw [show v.cells.toList.length=n by simp [K]] at this;rw [this];simp
def KX{α:Type}(pp:Rp α)(E:LH):List α->Lv_->Prop
 | [],[]=>True
 | x::xs,v::vs=>pp.r E v.cells.toList x/\KX pp E xs vs
 | _,_=>False
theorem KX.at{E:LH}{α:Type}{pp:Rp α}:∀{xs:List α} {vs:Lv_},KX pp E xs vs->∀(i:Nat) x v,xs[i]? =some x->vs[i]? =some v->pp.r E v.cells.toList x
 | [],_,_,_,_,_,h,_=>by simp at h
 | _::_,[],h,_,_,_,_,_=>h.elim
 | x::xs,v::vs,h,0,y,u,K,hu=>by simp at K hu;subst K hu;exact h.1
 | x::xs,v::vs,h,i+1,y,u,K,hu=>KX.at h.2 i y u (by simpa using K) (by simpa using hu)
theorem TX{E0:LH}{ρ:Operand->Value}{K:Next->St->Prop}(ay:Ff L ρ){α:Type}{pp:Rp α}{len:Nat}{Z:Array (Nat×Operand)}(vs:Lv_){z:Value}(xs:List α)
  (ht:P.underlying t=some (.slice e)) (az:Bv P e=some pp.n) (a0:zeroOf P e=some z) (a1:decide (0<len*pp.n/\len*pp.n<=2 ^ 24)=true)
  (a2:Z.toList.mapM (λq=>(ev L q.2).map λv=>(q.1,v))=some ((vs.zipIdx 0).map λq=>(q.2,q.1)))
  (U:vs.length=len) (Y:xs.length=len) (a3:KX pp E0 xs vs) (a4:As E H S)
  (h:∀r seg,OL e pp E0 (some ⟨r,0,none⟩) len seg xs->As E H (S++ [seg])->K (.value (.slice (some ⟨r,0,none⟩) xs.length len)) (Al E H (S++ [seg]))):
  lp P (execOp ρ ⟨d,.buildSlice t len Z,ty,p,af,g⟩) (Al E H S) K (λ_ _=>False):=by
 have am:=a3.at;have a5:(Z.map λ(j,x)=>(j,ρ x)).toList=(vs.zipIdx 0).map λq=>(q.2,q.1):=by
  have key:∀(l:List (Nat×Operand)) (vs:List (Nat×Value)),l.mapM (λq=>(ev L q.2).map λv=>(q.1,v))=some vs->l.map (λ(j,x)=>(j,ρ x))=vs:=by
   intro l
   induction l with
   | nil=>intro vs h;simp at h;subst h;rfl
   | cons q l ac=>
    intro vs h;simp only [List.mapM_cons,bind] at h;cases ag:ev L q.2 with
    | none=>rw [ag] at h;simp at h
    | some w=>
     rw [ag] at h;simp only [Option.map_some,Option.bind_some] at h;obtain⟨a6,a7,ap⟩:=bind_some h;simp at ap;subst ap;simp [ac a6 a7,ay _ _ ag]
  rw [Array.toList_map];exact key _ _ a2
 have aq:∀v∈vs,v.cells.size=pp.n:=λv O=>by
  obtain⟨i,hi⟩:=List.mem_iff_getElem?.1 O;have a8:i<xs.length:=by rw [Y,← U];exact(List.getElem?_eq_some_iff.1 hi).1
  simpa using pp.len (am i _ v (List.getElem?_eq_getElem a8) hi)
 rw [Pz];refine Az _ _ ?_;unfold Instr.buildSlice;refine Az _ _ (Cx ht ?_);refine Az _ _ (Fb az ?_);have be:=of_decide_eq_true a1;rw [if_neg (by omega),if_neg (by omega)];refine Az (x:=zeroValue e) _ (Hu a0 ?_);rw [Il,a5];obtain⟨cells,a9,al⟩:=Sk vs 0 ((Array.range (len*pp.n)).map (z.cells[· % z.cells.size]!)) aq (by simp [U]);simp only [fill_eq,a9];simp only [Nat.zero_mul,List.take_zero,List.nil_append] at al;refine Az _ _ (Ip a4 λr av=>?_);rw [(Fo av).1];have aw:cells.size=len*pp.n:=by
  have:cells.toList.length=len*pp.n:=by
   rw [al];have:∀(vs:Lv_),(∀v∈vs,v.cells.size=pp.n)->(vs.map (·.cells.toList)).flatten.length=vs.length*pp.n:=by
    intro vs
    induction vs with
    | nil=>intro _;simp
    | cons v vs ac=>intro h;rw [List.map_cons,List.flatten_cons,List.length_append,ac λw hw=>h w (List.mem_cons_of_mem _ hw),List.length_cons,Nat.succ_mul,Nat.add_comm];simp [h v (by simp)]
   rw [this vs aq,U]
  simpa using this
 have:=h r [(r,.cells cells e (0,0))] ⟨vs.map (·.cells.toList),.inr ⟨r,cells,rfl,rfl,aw,by omega,by rw [← al,List.take_of_length_le (by simp [aw,Y])]⟩,by simp [U,Y],λi x ws bb hw=>by
  rw [List.getElem?_map] at hw
  cases O:vs[i]? with
  | none=>rw [O] at hw;cases hw
  | some v=>rw [O] at hw;cases hw;exact am i x v bb O⟩ (Fo av).2
 rw [Y] at this;exact this
theorem Fe{α:Type}{pp:Rp α}{len:Nat}{K:Array (Nat×Operand)}(vs:Lv_){z:Value}(xs:List α)
  (O:ops[i]? =some ⟨d,.buildSlice t len K,ty,p,af,g⟩) (hw:AY L ops ⟨d,.buildSlice t len K,ty,p,af,g⟩=some true) (U:BY b n ⟨d,.buildSlice t len K,ty,p,af,g⟩=true)
  (ht:P.underlying t=some (.slice e)) (Y:Bv P e=some pp.n) (Z:zeroOf P e=some z) (ac:decide (0<len*pp.n/\len*pp.n<=2 ^ 24)=true)
  (ag:K.toList.mapM (λq=>(ev L q.2).map λv=>(q.1,v))=some ((vs.zipIdx 0).map λq=>(q.2,q.1)))
  (al:vs.length=len) (am:xs.length=len) (ap:KX pp E xs vs) (aq:As E H S)
  (h:∀r seg,OL e pp E (some ⟨r,0,none⟩) len seg xs->As E H (S++ [seg])->JL J Q b n (AB L d (.slice (some ⟨r,0,none⟩) xs.length len)) ds (.inRegion ops rest::k) cs (Al E H (S++ [seg]))):
  JL J Q b n L ds (.inRegion ops (i::rest)::k) cs (Al E H S):=by
 exact JL.op O hw U λρ av=>TX av vs xs ht Y Z ac ag al am ap aq h
theorem OL.get{α:Type}{pp:Rp α}{a:Option Addr}{c:Nat}{seg:Seg}{xs:List α}{m:Nat}{x:α}(hg:OL e pp E a c seg xs)(hm:xs[m]? =some x):
  ∃bk f ws,a=some ⟨bk,0,none⟩/\seg= [(bk,.cells f e (0,0))]/\pp.r E ws x/\(∀j w,ws[j]? =some w->f[m*pp.n+j]? =some w)/\(m+1)*pp.n<=f.size/\
   ∀(x':α) (ws':Lv_),pp.r E ws' x'->OL e pp E a c [(bk,.cells (Be f (m*pp.n) ws') e (0,0))] (xs.set m x'):=by
 obtain⟨wss,hg,al,Z⟩:=hg;have am:m<xs.length:=(List.getElem?_eq_some_iff.1 hm).1;rcases hg with⟨ac,ap,_⟩ | ⟨bk,f,ac,ap,a1,aq,av⟩
 ·omega
 have hw:wss[m]? =some wss[m]:=List.getElem?_eq_getElem (by omega);have aw:=It al Z;have hle:(m+1)*pp.n<=xs.length*pp.n:=Nat.mul_le_mul_right _ am;have a4:xs.length*pp.n<=c*pp.n:=Nat.mul_le_mul_right _ aq;refine⟨bk,f,wss[m],ac,ap,Z m x _ hm hw,λj w K=>?_,by omega,λx' ws' ay=>?_⟩
 ·have:=Kz aw hw j w K;rw [av,List.getElem?_take] at this;split at this
  ·simpa using this
  ·cases this
 ·have az:ws'.length=pp.n:=pp.len ay;refine⟨wss.set m ws',.inr ⟨bk,_,ac,V,by rw [Mh];exact a1,by simpa using aq,?_⟩,by simpa using al,λi y us Y hu=>?_⟩
  ·simp only [List.length_set];have key:∀(wss:List (Lv_)) (m:Nat) (hm:m<wss.length),(∀ws∈wss,ws.length=pp.n)->∀j,(wss.set m ws').flatten[j]? =if m*pp.n<=j/\j<(m+1)*pp.n then ws'[j - m*pp.n]? else wss.flatten[j]? :=by
    intro wss
    induction wss with
    | nil=>intro m hm;simp at hm
    | cons us wss ag=>
     intro m hm a0 j;have hu:us.length=pp.n:=a0 us (by simp);cases m with
     | zero=>
      simp only [List.set_cons_zero,List.flatten_cons,Nat.zero_mul,Nat.zero_le,true_and,Nat.zero_add,Nat.one_mul,Nat.sub_zero];split
      ·rename_i K;rw [List.getElem?_append_left (by omega)]
      ·rename_i K;rw [List.getElem?_append_right (by omega),List.getElem?_append_right (by omega),az,hu]
     | succ m=>
      simp only [List.set_cons_succ,List.flatten_cons];have O:(m+1)*pp.n=m*pp.n+pp.n:=Nat.succ_mul _ _;have e2:(m+1+1)*pp.n=(m+1)*pp.n+pp.n:=Nat.succ_mul _ _;rcases Nat.lt_or_ge j us.length with K | K
      ·rw [List.getElem?_append_left K,List.getElem?_append_left K,if_neg (by omega)]
      ·rw [List.getElem?_append_right K,List.getElem?_append_right K,ag m (by simpa using hm) (λws a2=>a0 ws (List.mem_cons_of_mem _ a2))];by_cases U:m*pp.n<=j - us.length/\j - us.length<(m+1)*pp.n
       ·rw [if_pos U,if_pos (by omega)];congr 1;omega
       ·rw [if_neg U,if_neg (by omega)]
   have a3:∀(vs:Lv_) (c:Av_) (off:Nat),off+vs.length<=c.size->∀j,(Be c off vs)[j]? =if off<=j/\j<off+vs.length then vs[j - off]? else c[j]? :=by
    intro vs
    induction vs with
    | nil=>intro c off _ j;simp [Be];omega
    | cons w vs ag=>
     intro c off U j;simp only [Be,List.length_cons] at*;rw [ag _ _ (by simp;omega)];by_cases O:j=off
     ·subst O;rw [if_neg (by omega),if_pos (by omega),Nat.sub_self,List.getElem?_cons_zero,Array.getElem?_setIfInBounds_self_of_lt (by omega)]
     ·by_cases e2:off+1<=j/\j<off+1+vs.length
      ·rw [if_pos e2,if_pos (by omega)];have:j - off=(j - (off+1))+1:=by omega
       rw [this];simp
      ·rw [if_neg e2,if_neg (by omega),Array.getElem?_setIfInBounds_ne (by omega)]
   apply List.ext_getElem?;intro j;have O:(m+1)*pp.n=m*pp.n+pp.n:=Nat.succ_mul _ _;have t1:(Be f (m*pp.n) ws').toList[j]? =(Be f (m*pp.n) ws')[j]? :=Array.getElem?_toList;have t2:f.toList[j]? =f[j]? :=Array.getElem?_toList;rw [key wss m (by omega) aw,List.getElem?_take,t1,a3 ws' f (m*pp.n) (by omega),av,List.getElem?_take,t2,az];by_cases U:m*pp.n<=j/\j<(m+1)*pp.n
   ·rw [if_pos U,if_pos (by omega),if_pos (by omega)]
   ·rw [if_neg U,if_neg (show ¬(m*pp.n<=j/\j<m*pp.n+pp.n) by omega)]
  ·rw [List.getElem?_set] at Y hu;by_cases O:m=i
   ·subst O;rw [if_pos rfl,if_pos am] at Y;rw [if_pos rfl,if_pos (by omega)] at hu;cases Y;cases hu;exact ay
   ·rw [if_neg O] at hu Y;exact Z i y us Y hu
theorem J1{α:Type}{pp:Rp α}{a:Option Addr}{c:Nat}{seg:Seg}{xs:List α}{xv:α}{m:Int}(j:Nat)(hg:OL e pp E a c seg xs)(hm:ix xs m=some xv)(O:S[j]? =some seg)
  (U:ops[i]? =some ⟨d,.indexAddr t x y,ty,p,af,g⟩) (hw:AY L ops ⟨d,.indexAddr t x y,ty,p,af,g⟩=some true) (Y:BY b n ⟨d,.indexAddr t x y,ty,p,af,g⟩=true)
  (Z:ev L x=some (.slice a xs.length c)) (ac:ev L y=some (.int kd m)) (ht:P.underlying t=some (.slice e)) (ag:Bv P e=some pp.n)
  (h:∀bk o f ws,S[j]? =some [(bk,.cells f e (0,0))]->pp.r E ws xv->(∀j w,ws[j]? =some w->f[o+j]? =some w)->o+pp.n<=f.size->(∀(x':α) (ws':Lv_),pp.r E ws' x'->OL e pp E a c [(bk,.cells (Be f o ws') e (0,0))] (xs.set m.toNat x'))->o=m.toNat*pp.n->a=some ⟨bk,0,none⟩->
   JL J Q b n (AB L d (.pointer (some ⟨bk,o,none⟩))) ds (.inRegion ops rest::k) cs (Al E H S)):
  JL J Q b n L ds (.inRegion ops (i::rest)::k) cs (Al E H S):=by
 obtain⟨m,rfl,hm⟩:=Gq hm;have ay:m<xs.length:=(List.getElem?_eq_some_iff.1 hm).1;obtain⟨bk,f,ws,rfl,rfl,al,am,ap,aq⟩:=OL.get hg hm;have av:(m+1)*pp.n=m*pp.n+pp.n:=Nat.succ_mul _ _;have aw:m*pp.n+pp.n<=f.size:=by rw [← av];exact ap
 refine Bf (v:= .pointer (some ⟨bk,m*pp.n,none⟩)) U hw Y (λρ K=>?_) (h bk (m*pp.n) f ws O al am aw (by simpa using aq) (by simp) V);have:=No (P:=P) (s:=Al E H S) (d:=d) (ty:=ty) (p:=p) (af:=af) (g:=g) ht ag (K x _ Z) (K y _ ac) ⟨by omega,by omega⟩;rw [El rfl] at this;simpa using this
end
section
variable {b:Frame}{n:Nat}
variable {x:Operand}{v:Value}{i:Nat}
theorem JS.perm{todo:Li_}{S':List Seg}(K:S.flatten.Perm S'.flatten)(O:As E H S)(h:As E H S'->JL J Q b n L ds todo cs (Al E H S')):JL J Q b n L ds todo cs (Al E H S):=by
 have U:As E H S':=Nd.perm O K;rw [show Al E H S=Al E H S' from Fu O K];exact h U
theorem ES{todo:Li_}{A B:Seg}(j:Nat)(K:S[j]? =some (A++B))(O:As E H S)(h:As E H (S.set j A++ [B])->JL J Q b n L ds todo cs (Al E H (S.set j A++ [B]))):JL J Q b n L ds todo cs (Al E H S):=by
 refine JS.perm ?_ O h;have U:=(EA (seg':=A) K).1;have Y:=(EA (seg':=A) K).2;rw [GX];refine U.trans ?_;have Z:=Y.symm.append_right B
 rwa [List.append_assoc] at Z
theorem JS.swap{todo:Li_}{A B:Seg}(j l:Nat)(O:S[j]? =some A)(U:S[l]? =some B)(Y:(j==l)=false)(Z:As E H S)(h:As E H ((S.set j B).set l A)->JL J Q b n L ds todo cs (Al E H ((S.set j B).set l A))):JL J Q b n L ds todo cs (Al E H S):=by
 have K:j≠l:=by simpa using Y
 refine JS.perm ?_ Z h;have a1:=(EA (seg':=B) O).1;have ac:(S.set j [])[l]? =some B:=by rw [List.getElem?_set_ne K];exact U
 have ag:=(EA (seg':=A) ac).1;have al:((S.set j B).set l A)[l]? =some A:=by
  have:l<(S.set j B).length:=by rw [List.length_set];exact(List.getElem?_eq_some_iff.1 U).1
  rw [List.getElem?_set,if_pos rfl,if_pos this]
 have c1:=(EA (seg':=A) al).1;rw [List.set_set] at c1;have am:((S.set j B).set l [])[j]? =some B:=by
  have:j<S.length:=(List.getElem?_eq_some_iff.1 O).1;rw [List.getElem?_set_ne (Ne.symm K)];simp [this]
 have c2:=(EA (seg':=B) am).1;have ap:(((S.set j B).set l []).set j [])=((S.set j []).set l []):=by
  rw [List.set_comm _ _ K,List.set_set,List.set_comm _ _ K.symm]
 rw [ap] at c2;exact a1.trans ((ag.append_right A).trans ((c2.symm.append_right A).trans c1.symm))
theorem Dy{bk off:Nat}{c:Av_}{f:Nat×Nat}{vs:Lv_}{seg:Seg}(j:Nat)(K:As E H S)(O:S[j]? =some ((bk,.cells c e f)::seg))(U:(c.toList.drop off).take vs.length=vs):∀i v,vs[i]? =some v->(Al E H S).cell? (Addr.add ⟨bk,off,none⟩ i)=some v:=
 V3 K O λi v hi=>by
  have Y:i<vs.length:=(List.getElem?_eq_some_iff.1 hi).1
  rw [← U,List.getElem?_take_of_lt Y,List.getElem?_drop,Array.getElem?_toList] at hi
  exact hi
theorem Mn(vs:Lv_):∀(c:Av_) (off:Nat),off+vs.length<=c.size->∀j,(Be c off vs)[j]? =if off<=j/\j<off+vs.length then vs[j - off]? else c[j]? :=by
 induction vs with
 | nil=>intro c off _ j;simp [Be];omega
 | cons w vs K=>
  intro c off U j;simp only [Be,List.length_cons] at*;rw [K _ _ (by simp;omega)];by_cases O:j=off
  ·subst O;rw [if_neg (by omega),if_pos (by omega),Nat.sub_self,List.getElem?_cons_zero,Array.getElem?_setIfInBounds_self_of_lt (by omega)]
  ·by_cases e2:off+1<=j/\j<off+1+vs.length
   ·rw [if_pos e2,if_pos (by omega)];have:j - off=(j - (off+1))+1:=by omega
    rw [this];simp
   ·rw [if_neg e2,if_neg (by omega),Array.getElem?_setIfInBounds_ne (by omega)]
end
theorem elim_inl{α β K:Type}{f:α->Option K}{g:β->Option K}{x:α}{r:K}(h:Sum.elim f g (.inl x)=some r):f x=some r:=h
theorem elim_inr{α β K:Type}{f:α->Option K}{g:β->Option K}{x:β}{r:K}(h:Sum.elim f g (.inr x)=some r):g x=some r:=h
def room{α:Type}(xs:List α)(x:α):Option (List α):=if xs.length+1<=2 ^ 40 then some (xs++ [x]) else none
theorem W3{α:Type}{xs ys:List α}{x:α}(h:room xs x=some ys):xs.length+1<=2 ^ 40/\ys=xs++ [x]:=by
 unfold room at h;split at h
 ·rename_i hb;exact⟨hb,(Option.some.inj h).symm⟩
 ·cases h
def OT(a b:Int):Option Int:=if b=0 then none else some (a.tmod b)
def OQ(a b:Nat):Option Nat:=if b=0 then none else some (a % b)
section
variable {x:Operand}{v:Value}{m:Int}{a b:Nat}
theorem Y4{r:Int}(K:ρ x=iV m)(O:ρ y=iV m')(h:OT m m'=some r):Yl P ⟨d,.binOp .rem t x y u,ty,p,af,g⟩ ρ s (iV r):=by
 unfold OT at h;split at h
 ·cases h
 ·rename_i U;cases h;exact Yl.rem K O U
theorem Yc{r:Nat}(K:ρ x= .int .u64 (a:Int))(O:ρ y= .int .u64 (b:Int))(h:OQ a b=some r):Yl P ⟨d,.binOp .rem t x y u,ty,p,af,g⟩ ρ s (.int .u64 (r:Int)):=by
 unfold OQ at h;split at h
 ·cases h
 ·rename_i U;cases h;exact Zq K O U
theorem Yl.min2{ats:Array TypeId}(K:ρ x=iV m)(O:ρ y=iV m'):Yl P ⟨d,.call ⟨.builtin .min,#[x,y],ats⟩,ty,p,af,g⟩ ρ s (iV (min m m')):=by
 have e:(if m'<m then m' else m)=min m m':=by split <;> omega
 simp [Yl,execOp,lp,pure,bind,Sem.bind,K,O,resolve,invoke,builtin,Builtin.min_,Builtin.min2,e]
theorem Yl.max2{ats:Array TypeId}(K:ρ x=iV m)(O:ρ y=iV m'):Yl P ⟨d,.call ⟨.builtin .max,#[x,y],ats⟩,ty,p,af,g⟩ ρ s (iV (max m m')):=by
 have e:(if m<m' then m' else m)=max m m':=by split <;> omega
 simp [Yl,execOp,lp,pure,bind,Sem.bind,K,O,resolve,invoke,builtin,Builtin.max_,Builtin.max2,e]
end
def LZ(P:Program):List Field->List (Nat×Nat)->Prop
 | f::K,(o,n)::O=>f.offset=o/\Bv P f.type=some n/\LZ P K O
 | [],[]=>True
 | _,_=>False
theorem LZ.mapM{P:Program}:∀{K:List Field} {O:List (Nat×Nat)},LZ P K O->K.mapM (λf=>(Bv P f.type).map λn=>(f.offset,n))=some O
 | [],[],_=>rfl
 | [],_::_,h=>h.elim
 | _::_,[],h=>h.elim
 | f::K,(o,n)::O,h=>by
  obtain⟨U,Y,Z⟩:=h
  simp only [List.mapM_cons,bind,Y,Option.map_some,Option.bind_some,LZ.mapM Z,U];rfl
theorem PM{L:Env}{ρ:Operand->Value}(h:Ff L ρ):∀{l:List (Nat×Operand)} {vs:List (Nat×Value)},l.mapM (λq=>(ev L q.2).map λv=>(q.1,v))=some vs->l.map (λ(j,x)=>(j,ρ x))=vs
 | [],vs,e=>by simp at e;subst e;rfl
 | q::l,vs,e=>by
  simp only [List.mapM_cons,bind] at e
  cases K:ev L q.2 with
  | none=>rw [K] at e;simp at e
  | some w=>
   rw [K] at e
   simp only [Option.map_some,Option.bind_some] at e
   obtain⟨Y,U,O⟩:=bind_some e
   simp at O;subst O
   simp [PM h U,h _ _ K]
theorem C6{P:Program}{s:St}{ρ:Operand->Value}{L:Env}{d:Option Tmp}{t ty:TypeId}{p:String}{af:Ae_}{g:On_}{z:Value}{K:Array Field}{O:Array (Nat×Operand)}{vs:List (Nat×Value)}{cells:Av_}(places:List (Nat×Nat))(h:Ff L ρ)(U:zeroOf P t=some z)(ht:P.underlying t=some (.struct K))(Y:LZ P K.toList places)
  (Z:O.toList.mapM (λq=>(ev L q.2).map λv=>(q.1,v))=some vs) (ac:KL (places.toArray[·]?) z.cells vs=some cells):Yl P ⟨d,.build t O,ty,p,af,g⟩ ρ s (.agg cells):=
 Yl.build (places:=places.toArray) U ht (by simpa using Y.mapM) (PM h Z) (by rw [fill_eq];exact ac)
theorem OL.again{α:Type}{e:TypeId}{pp:Rp α}{E:LH}{a:Option Addr}{bk c o:Nat}{f:Av_}{xs:List α}{m:Int}{x:α}(hg:OL e pp E a c [(bk,.cells f e (0,0))] xs)(hm:ix xs m=some x)(O:o=m.toNat*pp.n):
  ∃ws,pp.r E ws x/\(∀j w,ws[j]? =some w->f[o+j]? =some w)/\o+pp.n<=f.size/\∀(x':α) (ws':Lv_),pp.r E ws' x'->OL e pp E a c [(bk,.cells (Be f o ws') e (0,0))] (xs.set m.toNat x'):=by
 obtain⟨m,rfl,hm⟩:=Gq hm;obtain⟨am,ap,ws,aq,K,U,Y,Z,ac⟩:=OL.get hg hm;simp only [List.cons.injEq,Prod.mk.injEq,Obj.cells.injEq,and_true] at K;obtain⟨rfl,rfl⟩:=K;have ag:(m+1)*pp.n=m*pp.n+pp.n:=Nat.succ_mul _ _;have al:o=m*pp.n:=by simpa using O
 subst al;exact⟨ws,U,Y,by rw [← ag];exact Z,by simpa using ac⟩
section
variable {b:Frame}{n:Nat}
variable {x:Operand}{v:Value}{i:Nat}
theorem JS.app{α:Type}{pp:Rp α}{t1 t2:TypeId}{K c:Nat}{a:Option Addr}{seg:Seg}{xs ys:List α}{xv:α}{Z:Nat}{d1:Tmp}{ats:Array TypeId}{O:TypeId}{U:String}{Y:Ae_}{g':On_}{z:Value}(j:Nat)(al:room xs xv=some ys)
  (am:ops[i]? =some ⟨some d1,.buildSlice t2 1 #[(0,y)],O,U,Y,g'⟩) (hw:AY L ops ⟨some d1,.buildSlice t2 1 #[(0,y)],O,U,Y,g'⟩=some true) (ap:BY b n ⟨some d1,.buildSlice t2 1 #[(0,y)],O,U,Y,g'⟩=true)
  (aq:ops[Z]? =some ⟨d,.call ⟨.builtin .append,#[x,.tmp d1],ats⟩,ty,p,af,g⟩) (av:∀w,AY (AB L (some d1) w) ops ⟨d,.call ⟨.builtin .append,#[x,.tmp d1],ats⟩,ty,p,af,g⟩=some true) (aw:BY b n ⟨d,.call ⟨.builtin .append,#[x,.tmp d1],ats⟩,ty,p,af,g⟩=true)
  (ay:∀w,ev (AB L (some d1) w) x=some (.slice a xs.length c)) (az:ev L y=some v) (a0:ats[0]? =some t) (a1:ats[1]? =some t1) (ht:P.underlying t=some (.slice e)) (a2:P.underlying t1=some (.slice e)) (a3:P.underlying t2=some (.slice e)) (a4:Bv P e=some pp.n) (hb:F0 P e=some K) (a5:zeroOf P e=some z) (a6:z.cells.size=pp.n)
  (a7:0<K) (a8:K<=64) (a9:0<pp.n) (bb:pp.n<=64) (hg:OL e pp E a c seg xs) (be:pp.r E v.cells.toList xv) (bi:As E H S) (bn:S[j]? =some seg)
  (h:∀w ac ag seg',OL e pp E ac ag seg' ys->As E H (S.set j seg')->JL J Q b n (AB (AB L (some d1) w) d (.slice ac ys.length ag)) ds (.inRegion ops rest::k) cs (Al E H (S.set j seg'))):
  JL J Q b n L ds (.inRegion ops (i::Z::rest)::k) cs (Al E H S):=by
 obtain⟨bo,rfl⟩:=W3 al;exact VK j am hw ap aq av aw ay az a0 a1 ht a2 a3 a4 hb a5 a6 a7 a8 a9 bb bo hg be bi bn h
theorem Bu{todo:Li_}{S':List Seg}(K:S=S')(O:As E H S)(h:As E H S'->JL J Q b n L ds todo cs (Al E H S')):JL J Q b n L ds todo cs (Al E H S):=by
 subst K;exact h O
theorem Sd{todo:Li_}(K:As E H S)(h:As E H (S++ [[]])->JL J Q b n L ds todo cs (Al E H (S++ [[]]))):JL J Q b n L ds todo cs (Al E H S):=
 Ir (S':=S++ [[]]) (by rw [GX,List.append_nil]) K h
end
theorem Fa.KY{P:Program}{J:Judge P}{f:FuncId}{args:Av_}{s:St}{R:Value->St->Prop}(h:Fa J f args s R)(U:∀v s',R v s'->s'.q=false):Fa J f args s (λv s'=>R v s'/\∃w,Fits s' w):=λQ c cs Y=>
 h Q c cs λv s' K=>by
  by_cases O:∃w,Fits s' w
  ·exact Y v s' ⟨K,O⟩
  ·exact J.step ⟨V,λw f=>absurd ⟨w,f⟩ O,λe=>by have:=U v s' K;subst e;cases this⟩
def AO(l:List Nat):Nat->Bool:=λx=>l.contains x
section
variable {b:Frame}{n:Nat}{m fuel:Nat}
variable {x:Operand}{v:Value}{i:Nat}
def GJ(ops:Ao_)(listed:Array Bool)(m i:Nat):Bool:=match ops[i]? with
 | some oi=>decide (i<m)&&Region.noSelect ops&& !Eg oi.op&&IZ ops listed i oi&&HZ ops listed&&listed.size==ops.size&&(Region.ready .any ops listed).contains i
 | none=>false
theorem Yj(m:Nat){id:Nat}(hm:P.follows .mixedOrders=true)(K:(b.kind != .early)=true)
  (ht:EB ops m=true) (h:EB ops m=true->AT J Q b n ds ops k cs m Dl ops.size (Array.replicate ops.size false) L (Al E H S)):JL J Q b n L ds (.code (.region id ops true)::k) cs (Al E H S):=
 PW m Dl V hm K (h ht)
theorem Sb{oi:Oper}{i:Nat}(hi:ops[i]? =some oi)(K:GJ ops listed m i=true):decide (i<m)=true/\Region.noSelect ops=true/\(!Eg oi.op)=true/\IZ ops listed i oi=true/\HZ ops listed=true/\(listed.size==ops.size)=true/\(Region.ready .any ops listed).contains i=true:=by
 simp only [GJ,hi,Bool.and_eq_true] at K;obtain⟨⟨⟨⟨⟨⟨O,U⟩,Y⟩,Z⟩,ac⟩,ag⟩,al⟩:=K;exact⟨O,U,Y,Z,ac,ag,al⟩
theorem JG.val{oi:Oper}(i:Nat)(hi:ops[i]? =some oi)(K:EB ops m=true)(O:GJ ops listed m i=true)(U:s.q=false)
  (hw:AY L ops oi=some true) (Y:Br n oi.dst=true) (Z:∀ρ,Ff L ρ->∀s':St,(∀x o,(BE D s).E x=some o->s'.E x=some o)->Yl P oi ρ s' v)
  (h:AT J Q b n ds ops k cs m D fuel (Bi listed i) (AB L oi.dst v) s):AT J Q b n ds ops k cs m D (fuel+1) listed L s:=
 let ⟨ac,ag,al,am,ap,aq,av⟩:=Sb hi O
 WS hi ac K ag al am ap aq av U hw Y (λρ aw s' _ hs=>Z ρ aw s' hs) h
theorem cN{oi:Oper}(i:Nat)(hi:ops[i]? =some oi)(K:EB ops m=true)(O:GJ ops listed m i=true)(U:s.q=false)
  (hw:AY L ops oi=some false) (Y:Br n oi.dst=true)
  (h:AT J Q b n ds ops k cs m D fuel (Bi listed i) (AB L oi.dst undef) s):AT J Q b n ds ops k cs m D (fuel+1) listed L s:=
 let ⟨Z,ac,ag,al,am,ap,aq⟩:=Sb hi O
 WZ hi Z K ac ag al am ap aq U hw Y h
theorem bu{α:Type}{pp:Rp α}{a:Option Addr}{c:Nat}{xs:List α}{xv:α}{K:Int}(i:Nat)(Y:An pp E a c xs)(O:ix xs K=some xv)
  (Z:ops[i]? =some ⟨d,.indexAddr t x y,ty,p,af,g⟩) (ac:EB ops m=true) (ag:GJ ops listed m i=true) (al:s.q=false)
  (hw:AY L ops ⟨d,.indexAddr t x y,ty,p,af,g⟩=some true) (am:Br n d=true)
  (ap:ev L x=some (.slice a xs.length c)) (aq:ev L y=some (.int kd K)) (ht:P.underlying t=some (.slice e)) (av:Bv P e=some pp.n)
  (h:∀bk o ws,pp.r E ws xv->At E bk o ws->AT J Q b n ds ops k cs m D fuel (Bi listed i) (AB L d (.pointer (some ⟨bk,o,none⟩))) s):
  AT J Q b n ds ops k cs m D (fuel+1) listed L s:=by
 obtain⟨K,rfl,O⟩:=Gq O;have aw:K<xs.length:=(List.getElem?_eq_some_iff.1 O).1;obtain⟨a1,⟨rfl,_⟩ | ⟨bk,off,rfl,ay⟩⟩:=Y
 ·simp at aw
 obtain⟨ws,az,a0⟩:=ay K xv O;refine JG.val (v:= .pointer (some ⟨bk,off+K*pp.n,none⟩)) i Z ac ag al hw am (λρ U s' _=>?_) (h bk _ ws az a0);have:=No (P:=P) (s:=s') (d:=d) (ty:=ty) (p:=p) (af:=af) (g:=g) ht av (U x _ ap) (U y _ aq) ⟨by omega,by omega⟩;rw [El rfl] at this;simpa using this
theorem JG.call{f:FuncId}{args:Array Operand}{ats:Array TypeId}{vs:Lv_}{R:Value->LH->Seg->Prop}(Y:AP J f vs E [] R)(Z:Region.ready .any ops listed= [i])
  (ac:ops[i]? =some ⟨d,.call ⟨.value (.func f),args,ats⟩,ty,p,af,g⟩) (ag:Br n d=true) (hw:AY L ops ⟨d,.call ⟨.value (.func f),args,ats⟩,ty,p,af,g⟩=some true) (hb:Em P f=true) (al:evs L args.toList=some vs) (am:As E H S)
  (ap:∀v E' seg',Le E E'->R v E' seg'->As E' H (S++ [seg'])->AT J Q b n ds ops k cs m Dl fuel (Bi listed i) (AB L d v) (Al E' H (S++ [seg']))):
  AT J Q b n ds ops k cs m Dl (fuel+1) listed L (Al E H S):=by
 have aq:=Fa.KY (Y (Bc S.flatten H) trivial) (by rintro v s' ⟨E',B',_,_,_,rfl⟩;rfl);refine AT.call V Z ac ag hw hb al aq ?_;rintro v a2 ⟨⟨E',B',hle,av,aw,rfl⟩,w,ay⟩;have e2:mk E' (Bc S.flatten H) B'=mk E' H (B'++S.flatten):=by unfold mk;rw [F5]
 have az:Nd E' H S.flatten:=Nd.grow am λx K=>by
  have a0:=ay.d x K;have a1:Bc B' (Bc S.flatten H) x=none:=a0;exact(HS a1).1
 have O:Nd E' H (B'++S.flatten):=Nd.glue aw az;have U:(B'++S.flatten).Perm (S++ [B']).flatten:=by rw [GX];exact List.perm_append_comm
 rw [e2,Fu O U];exact⟨V,λx o K=>hle x o K,ap v E' B' hle av (Nd.perm O U)⟩
end
theorem Oi{E H:LH}{S:List Seg}{j bk:Nat}{o:Obj}{seg:Seg}(K:As E H S)(O:S[j]? =some ((bk,o)::seg)):E bk=none:=by
 have hm:(bk,o)∈S.flatten:=List.mem_flatten.2 ⟨_,List.mem_of_getElem? O,by simp⟩;exact((Nd.iff.1 K).2 _ hm).1
def I5{α:Type}(n:Int)(z:α):Option (List α):=if 0<=n/\n<=2 ^ 20 then some (List.replicate n.toNat z) else none
def Cz{α:Type}(xs ys:List α):Option (List α):=if xs.length+ys.length<=2 ^ 40 then some (xs++ys) else none
def Fy{α:Type}(xs:List α)(lo hi:Int):Option (List α):=if 0<=lo/\lo<=hi/\hi<=xs.length then some ((xs.take hi.toNat).drop lo.toNat) else none
section
variable {x:Operand}{v:Value}{m:Int}{a b:Nat}
end
variable {L':Env}
section
variable {b:Frame}{n:Nat}
variable {x:Operand}{v:Value}{i:Nat}
theorem Wu{ρ:Operand->Value}:execOp ρ ⟨d,.makeSlice t x y,ty,p,af,g⟩=(do pure (Next.value (← Instr.makeSlice t (ρ x) (ρ y)))):=by
 simp only [execOp]
theorem Pn{α:Type}(w:List α):∀m:Nat,((List.replicate m w).flatten).length=m*w.length
 | 0=>by simp
 | m+1=>by rw [List.replicate_succ,List.flatten_cons,List.length_append,Pn w m,Nat.succ_mul,Nat.add_comm]
theorem Ym(z:Av_)(O:0<z.size):∀m:Nat,((Array.range (m*z.size)).map (z[· % z.size]!)).toList=(List.replicate m z.toList).flatten:=by
 intro m;apply List.ext_getElem?;intro j;simp only [Array.toList_map,Array.toList_range,List.getElem?_map];by_cases K:j<m*z.size
 ·rw [List.getElem?_range K];have Y:j / z.size<m:=(Nat.div_lt_iff_lt_mul O).2 K;have U:j % z.size<z.size:=Nat.mod_lt _ O;have hw:(List.replicate m z.toList)[j / z.size]? =some z.toList:=by simp [Y]
  have:=Kz (n:=z.size) (wss:=List.replicate m z.toList) (λws Z=>by rw [List.eq_of_mem_replicate Z];simp) hw (j % z.size) z[j % z.size] (by simp [U]);rw [show j / z.size*z.size+j % z.size=j from by rw [Nat.mul_comm];exact Nat.div_add_mod _ _] at this;rw [this];simp [U]
 ·have hlen:((List.replicate m z.toList).flatten).length=m*z.size:=by rw [Pn];simp
  rw [List.getElem?_eq_none (by simpa using K),List.getElem?_eq_none (by rw [hlen];omega)];rfl
theorem JS.make{α:Type}{pp:Rp α}{z:Value}{Z:α}{m:Int}{xs:List α}(U:I5 m Z=some xs)
  (av:ops[i]? =some ⟨d,.makeSlice t x y,ty,p,af,g⟩) (hw:AY L ops ⟨d,.makeSlice t x y,ty,p,af,g⟩=some true) (aw:BY b n ⟨d,.makeSlice t x y,ty,p,af,g⟩=true)
  (ay:ev L x=some (iV m)) (Y:ev L y=some (iV m)) (ht:P.underlying t=some (.slice e)) (az:Bv P e=some pp.n) {O:Nat} (hb:F0 P e=some O) (bb:O<=64) (a0:zeroOf P e=some z) (be:0<pp.n) (ac:pp.r E z.cells.toList Z) (a1:As E H S)
  (h:∀r seg,OL e pp E (some ⟨r,0,none⟩) xs.length seg xs->As E H (S++ [seg])->JL J Q b n (AB L d (.slice (some ⟨r,0,none⟩) xs.length xs.length)) ds (.inRegion ops rest::k) cs (Al E H (S++ [seg]))):
  JL J Q b n L ds (.inRegion ops (i::rest)::k) cs (Al E H S):=by
 unfold I5 at U;split at U
 rotate_left
 ·cases U
 rename_i hm;cases U;refine JL.op av hw aw λρ ag=>?_;rw [Wu,ag x _ ay,ag y _ Y];refine Az _ _ ?_;unfold Instr.makeSlice;refine Az _ _ (Cx ht ?_);simp only [asInt,Il];obtain⟨inf,a2,a3⟩:=PG hb;refine Az (x:=typeInfo e) _ (Kv a2 ?_);simp only [a3,JW (show -9223372036854775808<=m/\m<=9223372036854775807 by omega)];have bi:(O:Int)*m<=64*2 ^ 20:=by
  have al:(O:Int)*m<=64*m:=Int.mul_le_mul_of_nonneg_right (by omega) hm.1;omega
 have a4:((decide (m<0) || decide ((O:Int)*m>2 ^ 48)) || decide (m<0) || decide (m>m))=false:=by
  simp only [Bool.or_eq_false_iff,decide_eq_false_iff_not];omega
 rw [a4];simp only [Bool.false_eq_true,if_false];refine Az (x:=askRoom _) _ ?_;have a5:∀{Q:Unit->St->Prop} {X:Halt->St->Prop} (w:Nat),Q () (Al E H S)->lp P (askRoom w) (Al E H S) Q X:=by
  intro Q X w am;unfold askRoom;split
  ·exact⟨.inl ⟨V,V⟩,am⟩
  ·exact am
 refine a5 _ (Az (x:=Go.sizeOf e) _ (Fb az ?_));have ap:z.cells.size=pp.n:=by simpa using pp.len ac
 have fin:∀K:Av_,((Array.range (m.toNat*pp.n)).map (K[· % K.size]!)).toList=(List.replicate m.toNat z.cells.toList).flatten->lp P (do let a ← newRow e ((Array.range (m.toNat*pp.n)).map (K[· % K.size]!));pure (Value.slice (some a) m.toNat m.toNat)) (Al E H S) (λa s'=>lp P (pure (Next.value a)) s' (λa6 s'=>match a6 with
   | .value v=>JL J Q b n (AB L d v) ds (.inRegion ops rest::k) cs s'
   | .skip=>JL J Q b n (AB L d undef) ds (.inRegion ops rest::k) cs s'
   | _=>False) (λ_ _=>False)) (λ_ _=>False):=by
  intro K a7;refine Az _ _ (Ip a1 λr aq=>?_);rw [(Fo aq).1];have bn:((Array.range (m.toNat*pp.n)).map (K[· % K.size]!)).size=m.toNat*pp.n:=by simp
  have:=h r _ ⟨List.replicate m.toNat z.cells.toList,.inr ⟨r,_,rfl,rfl,by simp,by simp,by
   rw [a7,List.take_of_length_le (by rw [Pn];simp [ap])]⟩,by simp,λi y us Y hu=>by
    have:=List.mem_of_getElem? Y;have a8:=List.eq_of_mem_replicate this
    have:=List.mem_of_getElem? hu;have e2:=List.eq_of_mem_replicate this
    subst a8 e2;exact ac⟩ (Fo aq).2
  simp only [List.length_replicate] at this;exact this
 split
 ·rename_i a9;have al:m.toNat=0:=by rcases Nat.mul_eq_zero.1 a9 with h | h <;> omega
  exact fin #[] (by simp [al])
 ·refine Az (x:=zeroValue e) _ (Hu a0 ?_);refine fin z.cells ?_;rw [← ap];exact Ym z.cells (by omega) _
theorem Lp{α:Type}{pp:Rp α}(O:ops[i]? =some ⟨d,.buildSlice t 0 #[],ty,p,af,g⟩)(hw:AY L ops ⟨d,.buildSlice t 0 #[],ty,p,af,g⟩=some true)(U:BY b n ⟨d,.buildSlice t 0 #[],ty,p,af,g⟩=true)
  (ht:P.underlying t=some (.slice e)) (Y:Bv P e=some pp.n) (Z:As E H S)
  (h:∀r seg,OL e pp E (some ⟨r,0,none⟩) 0 seg []->As E H (S++ [seg])->JL J Q b n (AB L d (.slice (some ⟨r,0,none⟩) 0 0)) ds (.inRegion ops rest::k) cs (Al E H (S++ [seg]))):
  JL J Q b n L ds (.inRegion ops (i::rest)::k) cs (Al E H S):=by
 refine JL.op O hw U λρ ag=>?_;rw [Pz];refine Az _ _ ?_;unfold Instr.buildSlice;refine Az _ _ (Cx ht ?_);refine Az _ _ (Fb Y ?_);rw [if_neg (by omega),if_pos (by omega)];refine Az (x:=pure #[]) _ ?_;simp only [lp,pure,List.map_toArray,List.map_nil,Instr.fill];refine Az _ _ (Ip Z λr K=>?_);rw [(Fo K).1];exact h r _ ⟨[],.inr ⟨r,_,V,V,by simp,Nat.le_refl _,by simp⟩,V,λi x ws ac=>by simp at ac⟩ (Fo K).2
theorem An.rows{α:Type}{pp:Rp α}{a:Option Addr}{c:Nat}{xs:List α}(U:An pp E a c xs):∃wss:List (Lv_),wss.length=xs.length/\(∀(i:Nat) x ws,xs[i]? =some x->wss[i]? =some ws->pp.r E ws x)/\
  ((xs= []/\∀ad:Addr,a=some ad->ad.spot=none∨c=0)∨∃bk off,a=some ⟨bk,off,none⟩/\∀(i:Nat) ws,wss[i]? =some ws->At E bk (off+i*pp.n) ws):=by
 obtain⟨ag,U⟩:=U;rcases U with⟨rfl,Z⟩ | ⟨bk,off,rfl,ac⟩
 ·exact⟨[],V,λi x ws O=>by simp at O,.inl ⟨V,Z⟩⟩
 ·have Y:∀i:Fin xs.length,∃ws,pp.r E ws xs[i]/\At E bk (off+i*pp.n) ws:=λi=>ac i xs[i] (List.getElem?_eq_getElem i.2);refine⟨List.ofFn λi=>Classical.choose (Y i),by simp,λi x ws O hw=>?_,.inr ⟨bk,off,V,λi ws hw=>?_⟩⟩
  ·have K:i<xs.length:=(List.getElem?_eq_some_iff.1 O).1;simp [K] at hw;subst hw;rw [List.getElem?_eq_getElem K] at O;cases O;exact(Classical.choose_spec (Y ⟨i,K⟩)).1
  ·have K:i<xs.length:=by have:=(List.getElem?_eq_some_iff.1 hw).1;simpa using this
   simp [K] at hw;subst hw;exact(Classical.choose_spec (Y ⟨i,K⟩)).2
theorem Mg{n:Nat}:∀{wss:List (Lv_)},(∀ws∈wss,ws.length=n)->wss.flatten.length=wss.length*n
 | [],_=>by simp
 | ws::wss,h=>by rw [List.flatten_cons,List.length_append,h ws (by simp),Mg λw hw=>h w (List.mem_cons_of_mem _ hw),List.length_cons,Nat.succ_mul,Nat.add_comm]
theorem Pp{n:Nat}:∀{wss:List (Lv_)},(∀ws∈wss,ws.length=n)->∀{j:Nat} {w:Value},wss.flatten[j]? =some w->∃(i m:Nat) (ws:Lv_),wss[i]? =some ws/\ws[m]? =some w/\j=i*n+m
 | [],_,_,_,h=>by simp at h
 | us::wss,O,j,w,h=>by
  have hu:=O us (by simp)
  rw [List.flatten_cons] at h
  rcases Nat.lt_or_ge j us.length with K | K
  ·rw [List.getElem?_append_left K] at h
   exact⟨0,j,us,V,h,by simp⟩
  ·rw [List.getElem?_append_right K] at h;obtain⟨i,m,ws,U,Y,Z⟩:=Pp (λws hw=>O ws (List.mem_cons_of_mem _ hw)) h;exact⟨i+1,m,ws,by simpa using U,Y,by rw [Nat.succ_mul];omega⟩
theorem Ni{α:Type}{pp:Rp α}{wss O:List (Lv_)}{xs ys:List α}(U:wss.length=xs.length)(h:∀(i:Nat) x ws,xs[i]? =some x->wss[i]? =some ws->pp.r E ws x)(Y:∀(i:Nat) x ws,ys[i]? =some x->O[i]? =some ws->pp.r E ws x):
  ∀(i:Nat) y us,(xs++ys)[i]? =some y->(wss++O)[i]? =some us->pp.r E us y:=by
 intro i y us K hu;rcases Nat.lt_or_ge i xs.length with hi | hi
 ·rw [List.getElem?_append_left hi] at K;rw [List.getElem?_append_left (by omega)] at hu;exact h i y us K hu
 ·rw [List.getElem?_append_right hi] at K;rw [List.getElem?_append_right (by omega),U] at hu;exact Y _ y us K hu
theorem VL{e t t1:TypeId}{Z ay l c m:Nat}{a:Option Addr}{blk:List (Nat×Obj)}{xs ys:Lv_}{i:Nat}{rest:List Nat}{d:Option Tmp}{x y:Operand}{ats:Array TypeId}{ty:TypeId}{p:String}{af:Ae_}{g:On_}{z:Value}{ax:Option Addr}{cx:Nat}{B1:List (Nat×Obj)}
  (a6:ops[i]? =some ⟨d,.call ⟨.builtin .append,#[x,y],ats⟩,ty,p,af,g⟩) (hw:AY L ops ⟨d,.call ⟨.builtin .append,#[x,y],ats⟩,ty,p,af,g⟩=some true) (a7:BY b n ⟨d,.call ⟨.builtin .append,#[x,y],ats⟩,ty,p,af,g⟩=true)
  (a8:ev L x=some (.slice a l c)) (a9:ev L y=some (.slice ax m cx)) (bb:ats[0]? =some t) (be:ats[1]? =some t1) (ht:P.underlying t=some (.slice e)) (bi:P.underlying t1=some (.slice e)) (bn:Bv P e=some Z) (hb:F0 P e=some ay) (bo:zeroOf P e=some z) (bv:z.cells.size=Z)
  (bw:0<ay) (bx:ay<=64) (bz:l+m<=2 ^ 40) (b0:∀w∈ys,Dv w=true) (hg:GS e Z a l c blk xs) (az:Nd E H (B0++blk++B1)) (hs:H6 (mk E H (B0++blk++B1)) (.slice ax m cx) Z ys)
  (h:∀a3 av a0,GS e Z a3 (l+m) av a0 (xs++ys)->Nd E H (B0++a0)->JL J Q b n (AB L d (.slice a3 (l+m) av)) ds (.inRegion ops rest::k) cs (mk E H (B0++a0))):
  JL J Q b n L ds (.inRegion ops (i::rest)::k) cs (mk E H (B0++blk++B1)):=by
 refine JL.op a6 hw a7 λρ a4=>?_;rw [Md,a4 x _ a8,a4 y _ a9];have b1:OI (B0++blk++B1) B0.length e Z a l c xs:=by
  rcases hg with⟨K,Y,al,am,ac⟩ | ⟨bk,f,K,Y,al,am,ac⟩
  ·exact .inl ⟨K,Y,al,ac⟩
  ·refine .inr ⟨bk,f,K,?_,al,am,ac⟩;subst Y;simp
 have hlen:=hg.length;refine Az _ _ (PK (pl:=B0.length) bb be bi ht bn hb bo bv az b1 hs b0 bw bz bx ?_ ?_ ?_)
 ·
  intro bk f O aw ca cc b2 a1 a2 ag;rcases hg with⟨K,_⟩ | ⟨U,f0,K,Y,al,am,ac⟩
  ·rw [K] at aw;cases aw
  ·subst Y;have b3:U=bk:=by rw [K] at aw;simpa using aw
   subst b3;have b4:(B0++ [(U,Obj.cells f0 e (0,0))]++B1).set B0.length (U,.cells O e (0,0))=B0++ [(U,.cells O e (0,0))]++B1:=by
    rw [List.append_assoc,List.append_assoc];exact Ju _ _ _ _
   rw [b4] at ag ⊢;have ap:Nd E H (B0++ [(U,.cells O e (0,0))]):=JU.Nd.left ag;refine JL.drop (B0++ [(U,.cells O e (0,0))]) (λp aq=>?_) ag (h a c _ (.inr ⟨U,O,K,V,a1,b2,a2.symm⟩) ap);exact List.mem_iff_getElem?.1 (List.mem_append_left _ aq)
 ·intro a5 hm;rcases hg with⟨K,Y,al,am,ac⟩ | ⟨U,f0,K,_⟩
  ·subst hm;have b5:ys= []:=by
    cases ax with
    | none=>exact hs.2
    | some ad=>have:=hs.2.1;simp at this;exact this
   subst Y am ac b5;have ap:Nd E H (B0++ []):=JU.Nd.left az;exact JL.drop (B0++ []) (λp aq=>List.mem_iff_getElem?.1 (List.mem_append_left _ aq)) az (h none 0 [] (by simpa using GS.nil) ap)
  ·rw [K] at a5;cases a5
 ·
  intro r O av b6 a1 a2 ag;have ap:Nd E H (B0++ [(r,.cells O e (0,0))]):=JU.Nd.pick ag;refine JL.drop (B0++ [(r,.cells O e (0,0))]) (λp aq=>?_) ag (h (some ⟨r,0,none⟩) av _ (.inr ⟨r,O,V,V,a1,b6,a2.symm⟩) ap);refine List.mem_iff_getElem?.1 ?_;rcases List.mem_append.1 aq with q | q
  ·simp [q]
  ·exact List.mem_append_right _ q
theorem Fp{α:Type}{pp:Rp α}{t1:TypeId}{al c cx:Nat}{a ax:Option Addr}{seg:Seg}{xs ys am:List α}{ats:Array TypeId}{z:Value}(j:Nat)(Y:Cz xs ys=some am)
  (a1:ops[i]? =some ⟨d,.call ⟨.builtin .append,#[x,y],ats⟩,ty,p,af,g⟩) (hw:AY L ops ⟨d,.call ⟨.builtin .append,#[x,y],ats⟩,ty,p,af,g⟩=some true) (a2:BY b n ⟨d,.call ⟨.builtin .append,#[x,y],ats⟩,ty,p,af,g⟩=true)
  (a3:ev L x=some (.slice a xs.length c)) (a4:ev L y=some (.slice ax ys.length cx)) (a5:ats[0]? =some t) (a6:ats[1]? =some t1) (ht:P.underlying t=some (.slice e)) (a7:P.underlying t1=some (.slice e)) (a8:Bv P e=some pp.n) (hb:F0 P e=some al) (a9:zeroOf P e=some z) (bb:z.cells.size=pp.n)
  (be:0<al) (bi:al<=64) (hg:OL e pp E a c seg xs) (aq:An pp E ax cx ys) (bn:As E H S) (av:S[j]? =some seg)
  (h:∀Z ac seg',OL e pp E Z ac seg' am->As E H (S.set j seg')->JL J Q b n (AB L d (.slice Z am.length ac)) ds (.inRegion ops rest::k) cs (Al E H (S.set j seg'))):
  JL J Q b n L ds (.inRegion ops (i::rest)::k) cs (Al E H S):=by
 unfold Cz at Y;split at Y
 rotate_left
 ·cases Y
 rename_i bo;cases Y;obtain⟨wss,hg,aw,bv⟩:=hg;obtain⟨bw,ay⟩:=GY bn av;obtain⟨ag,O,ap,U⟩:=aq.rows;have az:=It O ap;rw [bw];have bx:∀w∈ag.flatten,Dv w=true:=λw hw=>by
  obtain⟨us,bz,hw⟩:=List.mem_flatten.1 hw;obtain⟨q,K⟩:=List.mem_iff_getElem?.1 bz;have b0:q<ys.length:=by rw [← O];exact(List.getElem?_eq_some_iff.1 K).1
  exact pp.one (ap q _ us (List.getElem?_eq_getElem b0) K) w hw
 have hlen:(xs++ys).length=xs.length+ys.length:=by simp
 have a0:H6 (mk E H ((S.set j []).flatten++seg)) (.slice ax ys.length cx) pp.n ag.flatten:=by
  rcases U with⟨U,ci⟩ | ⟨bk,off,rfl,U⟩
  ·subst U;have:ag= []:=List.eq_nil_of_length_eq_zero O;subst this;cases ax with
   | none=>exact⟨rfl,rfl⟩
   | some ad=>exact⟨.inr rfl,by simp,Nat.zero_le _,λq w K=>by simp at K⟩
  ·refine⟨.inl V,by rw [Mg az,O],aq.1,λq w K=>?_⟩;obtain⟨b1,m,ws,b2,e2,b3⟩:=Pp az K;have:=(U b1 ws b2).cell (H:=H) (B:=(S.set j []).flatten++seg) e2;subst b3;rw [← Nat.add_assoc];exact this
 have b4:(S.set j []).flatten++seg=(S.set j []).flatten++seg++ []:=(List.append_nil _).symm;rw [b4] at ay a0 ⊢;refine VL a1 hw a2 a3 a4 a5 a6 ht a7 a8 hb a9 bb be bi bo bx hg ay a0 λZ ac b5 b6 ca=>?_;obtain⟨cc,ce⟩:=I2 av ca;rw [cc];have:=h Z ac b5 ⟨wss++ag,by rw [hlen,List.flatten_append];exact b6,by simp [aw,O],Ni aw bv ap⟩ ce;rw [hlen] at this;exact this
end
section
variable {b:Frame}{n:Nat}{m fuel:Nat}
variable {x:Operand}{v:Value}{i:Nat}
theorem Ek(h:Sub L' L)(k':AT J Q b n ds ops k cs m D fuel listed L' s):AT J Q b n ds ops k cs m D fuel listed L s:=λT K=>k' T (K.sub h)
theorem Gn{K:Nat}{O:Array Bool}(fuel:Nat)(listed:Array Bool)(I:Env->St->Prop)(U:∀L s,I L s->AT J Q b n ds ops k cs m D fuel listed L s)(h:(∀L s,I L s->AT J Q b n ds ops k cs m D fuel listed L s)->AT J Q b n ds ops k cs m D K O L s):AT J Q b n ds ops k cs m D K O L s:=h U
theorem JS.cut{α:Type}{pp:Rp α}{a:Option Addr}{c:Nat}{xs ys:List α}{lo hi:Int}{olo ohi:Option Operand}(Y:An pp E a c xs)(hC:Fy xs lo hi=some ys)
  (aq:ops[i]? =some ⟨d,.slice t x olo ohi none,ty,p,af,g⟩) (hw:AY L ops ⟨d,.slice t x olo ohi none,ty,p,af,g⟩=some true) (av:BY b n ⟨d,.slice t x olo ohi none,ty,p,af,g⟩=true)
  (aw:ev L x=some (.slice a xs.length c)) (O:match ohi with | some w=>ev L w=some (iV hi) | none=>hi=xs.length) (ac:match olo with | some w=>ev L w=some (iV lo) | none=>lo=0) (ht:P.underlying t=some (.slice e)) (ay:Bv P e=some pp.n)
  (h:∀ag al,An pp E ag al ys->JL J Q b n (AB L d (.slice ag ys.length al)) ds (.inRegion ops rest::k) cs (Al E H S)):
  JL J Q b n L ds (.inRegion ops (i::rest)::k) cs (Al E H S):=by
 unfold Fy at hC;split at hC
 rotate_left
 ·cases hC
 rename_i hb;obtain⟨a4,a5,az⟩:=hb;cases hC;obtain⟨lo,rfl⟩:∃l:Nat,lo=l:=⟨lo.toNat,by omega⟩;obtain⟨hi,rfl⟩:∃l:Nat,hi=l:=⟨hi.toNat,by omega⟩;simp only [Int.toNat_natCast] at*;have a6:=Y.1;have hlen:((xs.take hi).drop lo).length=hi - lo:=by simp;omega
 have am:∀ad:Addr,a=some ad->ad.spot=none∨c=0:=λad K=>by
  rcases Y.2 with⟨_,h⟩ | ⟨bk,off,h,_⟩
  ·exact h ad K
  ·rw [h] at K;cases K;exact .inl V
 have a0:An pp E (if c=lo then a else a.map (·.add (lo*pp.n))) (c - lo) ((xs.take hi).drop lo):=by
  refine⟨by rw [hlen];omega,?_⟩;by_cases a1:hi - lo=0
  ·left;refine⟨List.eq_nil_of_length_eq_zero (by rw [hlen];exact a1),λad K=>?_⟩;split at K
   ·exact(am ad K).imp id λh=>by omega
   ·cases a with
    | none=>cases K
    | some a2=>
     simp only [Option.map_some,Option.some.injEq] at K;subst K;exact .inl (by rw [El ((am a2 rfl).resolve_right (by omega))])
  ·right;rcases Y.2 with⟨h,_⟩ | ⟨bk,off,rfl,O⟩
   ·subst h;simp at az;omega
   ·refine⟨bk,off+lo*pp.n,?_,λq z U=>?_⟩
    ·rw [if_neg (by omega),Option.map_some,El rfl]
    ·rw [List.getElem?_drop,List.getElem?_take] at U;split at U
     ·obtain⟨ws,a3,ap⟩:=O _ z U;refine⟨ws,a3,?_⟩;rw [Nat.add_mul] at ap;rw [Nat.add_assoc];exact ap
     ·cases U
 have:=h _ _ a0;rw [hlen] at this;refine Bf aq hw av (λρ Z=>?_) this;refine Yl.slice (mx:=c) (hi:=hi) (lo:=lo) ht ay (Z x _ aw) V ?_ ?_ (Nat.le_refl _) (by omega) (by omega)
 ·cases ohi with
  | none=>exact⟨by simp only at O;omega,rfl⟩
  | some w=>exact Z w _ O
 ·cases olo with
  | none=>simp only at ac;show lo=0;omega
  | some w=>exact Z w _ ac
end
theorem cb{α:Type}{kk:Nat}{pp:Rp α}{E:LH}{bk o:Nat}{ws:Lv_}{xs:List α}{m:Int}{x:α}(O:(rA kk pp).r E ws xs)(h:At E bk o ws)(hm:ix xs m=some x):∃us,pp.r E us x/\At E bk (o+m.toNat*pp.n) us/\0<=m/\m<kk:=by
 obtain⟨U,wss,rfl,Y,K⟩:=O;obtain⟨m,rfl,hm⟩:=Gq hm;have ag:m<xs.length:=(List.getElem?_eq_some_iff.1 hm).1;have hw:wss[m]? =some wss[m]:=List.getElem?_eq_getElem (by omega);refine⟨wss[m],K m x _ hm hw,?_,by omega,by omega⟩;obtain⟨f,e,fr,Z,g2⟩:=h;refine⟨f,e,fr,Z,λj w ac=>?_⟩;rw [Nat.add_assoc];exact g2 _ _ (Kz (It (Y.trans U.symm) K) hw j w ac)
variable {v':Value}
section
variable {x:Operand}{v:Value}
end
section
variable {b:Frame}{n:Nat}
variable {x:Operand}{i:Nat}
end
section
variable {x:Operand}{v:Value}
theorem N6{t:TypeId}{cells:Av_}{off:Nat}{v:Value}(ht:Dc P t=some false)(K:cells[off]? =some v){Q:Value->St->Prop}{X:Halt->St->Prop}(k:Q v s):lp P (part t cells off) s Q X:=by
 unfold part;refine Az _ _ (Mq ht ?_);simp only [Bool.false_eq_true,if_false,K];exact k
theorem SP{n:Nat}{t:TypeId}{a b:Int}(ht:P.underlying t=some (.int .i64)){Q:Bool->St->Prop}{X:Halt->St->Prop}(k:Q (a==b) s):lp P (Op.equalIn (n+1) t (iV a) (iV b)) s Q X:=by
 unfold Op.equalIn;refine Az _ _ (Cx ht ?_);simp only [if_true];exact k
theorem Ze{n:Nat}{f1 f2:Field}{a b O b':Int}(ht:P.underlying t=some (.struct #[f1,f2]))(hs:P.stoodInHeld t=false)(n1:f1.name≠ "_")(n2:f2.name≠ "_")(u1:P.underlying f1.type=some (.int .i64))(u2:P.underlying f2.type=some (.int .i64))(o1:f1.offset=0)(o2:f2.offset=1)
  {Q:Bool->St->Prop} {X:Halt->St->Prop} (k:Q (decide (a=O/\b=b')) s):lp P (Op.equalIn (n+2) t (.agg #[iV a,iV b]) (.agg #[iV O,iV b'])) s Q X:=by
 unfold Op.equalIn;refine Az _ _ (Cx ht ?_);refine Az (x:=program) _ ?_;show lp P (if P.stoodInHeld t=true then _ else _) s _ _
 rw [if_neg (by rw [hs];exact Bool.false_ne_true)];have a1:Dc P f1.type=some false:=by unfold Dc;rw [u1]
 have Z:Dc P f2.type=some false:=by unfold Dc;rw [u2]
 let bd:Field->Option Bool×Unit->Sem (ForInStep (Option Bool×Unit)):=λf _=>if f.name≠ "_" then do
   if !(← Op.equalIn (n+1) f.type (← part f.type #[iV a,iV b] f.offset) (← part f.type #[iV O,iV b'] f.offset)) then pure (ForInStep.done (some false,())) else pure (ForInStep.yield (none,()))
  else pure (ForInStep.yield (none,()))
 have ac:∀{K:ForInStep (Option Bool×Unit)->St->Prop} (o:Option Bool×Unit),K (if a=O then .yield (none,()) else .done (some false,())) s->lp P (bd f1 o) s K X:=by
  intro K o U;show lp P (if f1.name≠ "_" then _ else _) s K X
  rw [if_pos n1,o1];refine Az _ _ (N6 (v:=iV a) a1 V ?_);refine Az _ _ (N6 (v:=iV O) a1 V ?_);refine Az _ _ (SP u1 ?_);by_cases h:a=O
  ·subst h;simpa [lp,pure] using U
  ·rw [if_neg h] at U;simpa [lp,pure,h] using U
 have ag:∀{K:ForInStep (Option Bool×Unit)->St->Prop} (o:Option Bool×Unit),K (if b=b' then .yield (none,()) else .done (some false,())) s->lp P (bd f2 o) s K X:=by
  intro K o U;show lp P (if f2.name≠ "_" then _ else _) s K X
  rw [if_pos n2,o2];refine Az _ _ (N6 (v:=iV b) Z V ?_);refine Az _ _ (N6 (v:=iV b') Z V ?_);refine Az _ _ (SP u2 ?_);by_cases h:b=b'
  ·subst h;simpa [lp,pure] using U
  ·rw [if_neg h] at U;simpa [lp,pure,h] using U
 dsimp only;rw [← Array.forIn_toList];simp only [List.forIn_cons,List.forIn_nil];refine Az _ _ (Az _ _ (ac (none,()) ?_));by_cases h:a=O
 ·rw [if_pos h];refine Az _ _ (ag (none,()) ?_);by_cases Y:b=b'
  ·rw [if_pos Y];simpa [lp,pure,h,Y] using k
  ·rw [if_neg Y];simpa [lp,pure,h,Y] using k
 ·rw [if_neg h];simpa [lp,pure,h] using k
structure cD (P:Program) (t:TypeId) (f1 f2:Field):Prop where
 ht:P.underlying t=some (.struct #[f1,f2])
 hs:P.stoodInHeld t=false
 hg:P.eqGuardType P.depth t=false
 n1:f1.name≠ "_"
 n2:f2.name≠ "_"
 u1:P.underlying f1.type=some (.int .i64)
 u2:P.underlying f2.type=some (.int .i64)
 o1:f1.offset=0
 o2:f2.offset=1
def UX(P:Program)(t:TypeId):Prop:=∃f1 f2,cD P t f1 f2
theorem R2{o:BinOp}{c K:Av_}(O:o= .eql∨o= .neq)(hg:P.eqGuardType P.depth t=false){Q:Unit->St->Prop}{X:Halt->St->Prop}(k:Q () s):lp P (eqGuard o t x y (.agg c) (.agg K)) s Q X:=by
 rcases O with rfl | rfl <;> (simp [eqGuard,lp,bind,Sem.bind,program,pure,hg];exact k)
theorem XJ{a b K b':Int}(O:UX P t)(U:ρ x= .agg #[iV a,iV b])(Y:ρ y= .agg #[iV K,iV b']):Yl P ⟨d,.binOp .neq t x y u,ty,p,af,g⟩ ρ s (.bool (decide (¬(a=K/\b=b')))):=by
 obtain⟨f1,f2,h⟩:=O;refine FQ (sm:=do eqGuard .neq t x y (ρ x) (ρ y);binOp .neq t (ρ x) (ρ y)) V ?_
 rw [U,Y];refine Az _ _ (R2 (.inr V) h.hg ?_);have hb:binOp .neq t (.agg #[iV a,iV b]) (.agg #[iV K,iV b'])=(do pure (.bool (!(← Op.equal t (.agg #[iV a,iV b]) (.agg #[iV K,iV b']))))):=V
 rw [hb];refine Az (x:=Op.equal t _ _) _ ?_;unfold Op.equal Op.maxDepth;exact Ze h.ht h.hs h.n1 h.n2 h.u1 h.u2 h.o1 h.o2 ⟨by simp,V⟩
end
section
variable (J:Judge P)(Q:Gs_)(b:Frame)(n:Nat)(ds:Ld_)(ops:Ao_)(k:Li_)(cs:Lf_)(m:Nat)(D:Nat->Bool)
def Take(fuel:Nat)(listed:Array Bool)(L:Env)(s:St)(i:Nat):Prop:=
 ∃o,ops[i]? =some o/\(!Eg o.op)=true/\Br n o.dst=true/\AY L ops o=some true/\∀ρ,Ff L ρ->lp P (execOp ρ o) (BE D s) (λO s'=>match O with
  | .value v=>AT J Q b n ds ops k cs m D fuel (Bi listed i) (AB L o.dst v) (CH D s s')
  | .skip=>AT J Q b n ds ops k cs m D fuel (Bi listed i) (AB L o.dst undef) (CH D s s')
  | .enter f args=>∃R,Fa J f args (CH D s s') R/\∀v K,R v K->K.q=false/\(∀x o,(BE D s).E x=some o->(BE D K).E x=some o)/\AT J Q b n ds ops k cs m D fuel (Bi listed i) (AB L o.dst v) K
  | _=>False) (λ_ _=>False)
end
section
variable {b:Frame}{n:Nat}{m fuel:Nat}
variable {x:Operand}{v:Value}{i:Nat}
theorem Pu(U:s.q=false){l:List Nat}(K:Region.ready .any ops listed=l)(Y:l≠ [])(h:∀i∈l,Take J Q b n ds ops k cs m D fuel listed L s i):AT J Q b n ds ops k cs m D (fuel+1) listed L s:=
 SV U (by rw [K];exact Y) λi hi o O=>by
  rw [K] at hi
  obtain⟨o',Z,ac,ag,al,am⟩:=h i hi
  obtain rfl:o'=o:=by rw [Z] at O;exact Option.some.inj O
  exact⟨ac,ag,true,al,λe=>(by cases e),λ_=>am⟩
theorem JG.one(K:s.q=false)(O:Region.ready .any ops listed= [i])(h:Take J Q b n ds ops k cs m D fuel listed L s i):AT J Q b n ds ops k cs m D (fuel+1) listed L s:=
 Pu K O (by simp) (by simpa using h)
theorem Fw{i j:Nat}(K:s.q=false)(O:Region.ready .any ops listed= [i,j])(hi:Take J Q b n ds ops k cs m D fuel listed L s i)(U:Take J Q b n ds ops k cs m D fuel listed L s j):AT J Q b n ds ops k cs m D (fuel+1) listed L s:=
 Pu K O (by simp) (by intro q K;simp at K;rcases K with rfl | rfl <;> assumption)
def plus(E:LH)(bk:Nat)(o:Obj):LH:=λx=>if x=bk then Option.some o else E x
theorem YX{jp bk:Nat}{o:Obj}(ac:As E H S)(ag:S[jp]? =Option.some [(bk,o)]):BE (AO [bk]) (Al E H S)=Al (plus E bk o) H (S.set jp [])/\As (plus E bk o) H (S.set jp []):=by
 obtain⟨am,Y⟩:=GY ac ag;have Z:=Nd.iff.1 Y;have ay:E bk=Option.none:=(Z.2 (bk,o) (by simp)).1;have ap:H bk=Option.none:=(Z.2 (bk,o) (by simp)).2;have al:∀q∈(S.set jp []).flatten,q.1≠bk:=λq O e=>by
  have:=Z.1;rw [List.map_append,List.nodup_append] at this;exact this.2.2 q.1 (List.mem_map_of_mem O) bk (by simp) e
 have aq:(Al E H S).get bk=Option.some o:=Ei (i:=0) ac ag V;have av:∀x,x≠bk->Bc ((S.set jp []).flatten++ [(bk,o)]) H x=Bc (S.set jp []).flatten H x:=λx K=>by
  rw [show Bc ((S.set jp []).flatten++ [(bk,o)]) H=Bc ([(bk,o)]++(S.set jp []).flatten) H from Mi Y List.perm_append_comm];simp [Bc,K]
 refine⟨?_,?_⟩
 ·unfold BE;have aw:(λx=>if AO [bk] x=true then(Al E H S).get x else(Al E H S).E x)=plus E bk o:=by
   funext x;unfold plus;by_cases K:x=bk
   ·subst K;simp [AO,aq]
   ·simp [AO,K];rfl
  have e2:(λx=>if AO [bk] x=true then Option.none else(Al E H S).H x)=Bc (S.set jp []).flatten H:=by
   funext x;by_cases K:x=bk
   ·subst K;simp [AO];rw [Mm al,ap]
   ·simp only [AO,List.contains_cons,List.contains_nil,Bool.or_false,beq_iff_eq,if_neg K];rw [am];exact av x K
  rw [aw,e2];rfl
 ·have U:Nd E H (S.set jp []).flatten:=JU.Nd.left Y;show Nd _ H (S.set jp []).flatten;rw [Nd.iff] at U ⊢;exact⟨U.1,λq O=>⟨by unfold plus;rw [if_neg (al q O)];exact(U.2 q O).1,(U.2 q O).2⟩⟩
theorem Wp{jp bk:Nat}{o:Obj}{S':List Seg}(aq:As E H S)(av:S[jp]? =Option.some [(bk,o)])(aw:As (plus E bk o) H S')(Y:S'[jp]? =Option.some []):CH (AO [bk]) (Al E H S) (Al (plus E bk o) H S')=Al E H (S'.set jp [(bk,o)])/\As E H (S'.set jp [(bk,o)]):=by
 obtain⟨ay,ag⟩:=GY aq av;have al:=Nd.iff.1 ag;have az:E bk=Option.none:=(al.2 (bk,o) (by simp)).1;have a0:H bk=Option.none:=(al.2 (bk,o) (by simp)).2;have Z:(S'.set jp []).flatten=S'.flatten:=by
  have:S'.set jp []=S':=by
   apply List.ext_getElem?;intro q;rw [List.getElem?_set];split
   ·rename_i e;subst e;rw [Y,if_pos (List.getElem?_eq_some_iff.1 Y).1]
   ·rfl
  rw [this]
 have U:=Nd.iff.1 (show Nd _ H S'.flatten from aw);have am:∀q∈S'.flatten,q.1≠bk:=λq K e=>by
  have:=(U.2 q K).1;unfold plus at this;rw [if_pos e] at this;cases this
 have ac:Nd E H ((S'.set jp []).flatten++ [(bk,o)]):=by
  rw [Z,Nd.iff,List.map_append,List.nodup_append];refine⟨⟨U.1,by simp,λx O y ap e=>?_⟩,λq K=>?_⟩
  ·obtain⟨q,K,rfl⟩:=List.mem_map.1 O;simp at ap;subst ap;exact am q K e
  ·rcases List.mem_append.1 K with K | K
   ·refine⟨?_,(U.2 q K).2⟩;have:=(U.2 q K).1;unfold plus at this
    rwa [if_neg (am q K)] at this
   ·simp at K;subst K;exact⟨az,a0⟩
 obtain⟨a1,a2⟩:=I2 (seg':= [(bk,o)]) Y ac;refine⟨?_,a2⟩;rw [← a1,Z];unfold CH Al mk;congr 1
 ·funext x;show(if AO [bk] x=true then E x else plus E bk o x)=E x
  by_cases O:x=bk
  ·subst O;simp [AO]
  ·simp [AO,O,plus]
 ·funext x;show(if AO [bk] x=true then(Al E H S).H x else Bc S'.flatten H x)=Bc (S'.flatten++ [(bk,o)]) H x
  have a3:Bc (S'.flatten++ [(bk,o)]) H=Bc ([(bk,o)]++S'.flatten) H:=Mi (by rw [Z] at ac;exact ac) List.perm_append_comm;rw [a3];by_cases O:x=bk
  ·subst O;simp only [AO,List.contains_cons,beq_self_eq_true,Bool.true_or,if_true,List.cons_append,List.nil_append,Bc];rw [ay];show Bc ((S.set jp []).flatten++ [(x,o)]) H x=_;rw [show Bc ((S.set jp []).flatten++ [(x,o)]) H=Bc ([(x,o)]++(S.set jp []).flatten) H from Mi ag List.perm_append_comm];simp [Bc]
  ·simp [AO,O,Bc]
end
theorem OL.dq{α:Type}{e:TypeId}{pp:Rp α}{E0 E H:LH}{S:List Seg}{a:Option Addr}{c j:Nat}{seg:Seg}{xs:List α}(hg:OL e pp E0 a c seg xs)(Z:As E H S)(ac:S[j]? =some seg):∃wss:List (Lv_),H6 (Al E H S) (.slice a xs.length c) pp.n wss.flatten/\wss.length=xs.length/\∀(i:Nat) x ws,xs[i]? =some x->wss[i]? =some ws->pp.r E0 ws x:=by
 obtain⟨wss,hg,ag,al⟩:=hg;refine⟨wss,?_,ag,al⟩;rcases hg with⟨rfl,am,Y,U,K⟩ | ⟨bk,f,rfl,rfl,Y,U,K⟩
 ·exact⟨am,K⟩
 ·have hle:xs.length*pp.n<=f.size:=by rw [Y];exact Nat.mul_le_mul_right _ U
  refine⟨.inl V,by rw [K];simp [hle],U,λq w O=>?_⟩;rw [K,List.getElem?_take] at O;split at O
  ·refine BS Z ac ?_;simpa using O
  ·cases O
section
variable {x:Operand}
theorem Tr{E0:LH}{ρ:Operand->Value}{K:Next->St->Prop}{α:Type}{pp:Rp α}{t1:TypeId}{a0 c cx:Nat}{a ax:Option Addr}{seg:Seg}{xs ys a1:List α}{ats:Array TypeId}{z:Value}(j:Nat)(aw:Cz xs ys=some a1)
  (bi:ρ x= .slice a xs.length c) (bn:ρ y= .slice ax ys.length cx) (bo:ats[0]? =some t) (bv:ats[1]? =some t1) (ht:P.underlying t=some (.slice e)) (bw:P.underlying t1=some (.slice e)) (bx:Bv P e=some pp.n) (hb:F0 P e=some a0) (bz:zeroOf P e=some z) (b0:z.cells.size=pp.n)
  (b1:0<a0) (b2:a0<=64) (hg:OL e pp E0 a c seg xs) (b3:∃Z:List (Lv_),H6 (Al E H S) (.slice ax ys.length cx) pp.n Z.flatten/\Z.length=ys.length/\∀(i:Nat) x ws,ys[i]? =some x->Z[i]? =some ws->pp.r E0 ws x) (b4:As E H S) (a7:S[j]? =some seg)
  (h:∀Y O g seg',OL e pp E0 Y O seg' a1->As E H (S.set j (g++seg'))->K (.value (.slice Y a1.length O)) (Al E H (S.set j (g++seg')))):
  lp P (execOp ρ ⟨d,.call ⟨.builtin .append,#[x,y],ats⟩,ty,p,af,g⟩) (Al E H S) K (λ_ _=>False):=by
 unfold Cz at aw;split at aw
 rotate_left
 ·cases aw
 rename_i b5;cases aw;obtain⟨Z,a8,ay,a2⟩:=b3;obtain⟨wss,hg,a9,b6⟩:=hg;obtain⟨ca,a3⟩:=GY b4 a7;have cc:=It ay a2;have ce:∀w∈Z.flatten,Dv w=true:=λw hw=>by
  obtain⟨us,ci,hw⟩:=List.mem_flatten.1 hw;obtain⟨q,bb⟩:=List.mem_iff_getElem?.1 ci;have co:q<ys.length:=by rw [← ay];exact(List.getElem?_eq_some_iff.1 bb).1
  exact pp.one (a2 q _ us (List.getElem?_eq_getElem co) bb) w hw
 have hlen:(xs++ys).length=xs.length+ys.length:=by simp
 rw [ca] at a8 ⊢;rw [Md,bi,bn];have a4:∀{Y O seg'},GS e pp.n Y (xs.length+ys.length) O seg' (wss.flatten++Z.flatten)->OL e pp E0 Y O seg' (xs++ys):=λcp=>
  ⟨wss++Z,by rw [hlen,List.flatten_append];exact cp,by simp [a9,ay],Ni a9 b6 a2⟩
 have fin:∀Y O g seg',OL e pp E0 Y O seg' (xs++ys)->Nd E H ((S.set j []).flatten++(g++seg'))->K (.value (.slice Y (xs.length+ys.length) O)) (mk E H ((S.set j []).flatten++(g++seg'))):=λY O g seg' ct ag=>by
  obtain⟨cw,cy⟩:=I2 a7 ag;rw [cw];have:=h Y O g seg' ct cy;rw [hlen] at this;exact this
 have c0:OI ((S.set j []).flatten++seg) (S.set j []).flatten.length e pp.n a xs.length c wss.flatten:=by
  rcases hg with⟨U,ac,av,am,ap⟩ | ⟨bk,f,U,ac,av,am,ap⟩
  ·exact .inl ⟨U,ac,av,ap⟩
  ·refine .inr ⟨bk,f,U,?_,av,am,ap⟩;subst ac;simp
 refine Az _ _ (PK (pl:=(S.set j []).flatten.length) bo bv bw ht bx hb bz b0 a3 c0 a8 ce b1 b5 b2 ?_ ?_ ?_)
 ·intro bk f al az c7 c8 c1 a5 a6 ag;rcases hg with⟨U,_⟩ | ⟨aq,f0,U,ac,av,am,ap⟩
  ·rw [U] at az;cases az
  ·subst ac;have c2:aq=bk:=by rw [U] at az;simpa using az
   subst c2;have c3:((S.set j []).flatten++ [(aq,Obj.cells f0 e (0,0))]).set (S.set j []).flatten.length (aq,.cells al e (0,0))=(S.set j []).flatten++ [(aq,.cells al e (0,0))]:=Ju _ _ _ _;rw [c3] at ag ⊢;exact fin a c [] _ (a4 (.inr ⟨aq,al,U,V,a5,c1,a6.symm⟩)) ag
 ·intro be hm;rcases hg with⟨U,ac,av,am,ap⟩ | ⟨aq,f0,U,_⟩
  ·have c4:Z.flatten= []:=List.eq_nil_of_length_eq_zero (by rw [Mg cc,ay,hm];simp);have:=fin none 0 [] [] (a4 (by rw [ac,hm,ap,c4];exact GS.nil)) (by rw [am] at a3;simpa using a3);rw [ac,hm] at this;rw [am];simp only [List.append_nil] at this ⊢;exact this
  ·rw [U] at be;cases be
 ·intro r al O c5 a5 a6 ag;have c6:(S.set j []).flatten++seg++ [(r,Obj.cells al e (0,0))]=(S.set j []).flatten++(seg++ [(r,.cells al e (0,0))]):=List.append_assoc _ _ _;rw [c6] at ag ⊢;exact fin (some ⟨r,0,none⟩) O seg _ (a4 (.inr ⟨r,al,V,V,a5,c5,a6.symm⟩)) ag
theorem YB{E0:LH}{ρ:Operand->Value}{K:Next->St->Prop}{α:Type}{pp:Rp α}{t1:TypeId}{O c cx:Nat}{a ax:Option Addr}{seg Y:Seg}{xs ys U:List α}{ats:Array TypeId}{z:Value}(j al:Nat)(am:Cz xs ys=some U)
  (ap:ρ x= .slice a xs.length c) (aq:ρ y= .slice ax ys.length cx) (av:ats[0]? =some t) (aw:ats[1]? =some t1) (ht:P.underlying t=some (.slice e)) (ay:P.underlying t1=some (.slice e)) (az:Bv P e=some pp.n) (hb:F0 P e=some O) (a0:zeroOf P e=some z) (a1:z.cells.size=pp.n)
  (a2:0<O) (a3:O<=64) (hg:OL e pp E0 a c seg xs) (a4:OL e pp E0 ax cx Y ys) (Z:As E H S) (a5:S[j]? =some seg) (a6:S[al]? =some Y)
  (h:∀ac ag g seg',OL e pp E0 ac ag seg' U->As E H (S.set j (g++seg'))->K (.value (.slice ac U.length ag)) (Al E H (S.set j (g++seg')))):
  lp P (execOp ρ ⟨d,.call ⟨.builtin .append,#[x,y],ats⟩,ty,p,af,g⟩) (Al E H S) K (λ_ _=>False):=
 Tr j am ap aq av aw ht ay az hb a0 a1 a2 a3 hg (a4.dq Z a6) Z a5 h
end
section
variable {b:Frame}{n:Nat}{m fuel:Nat}
variable {x:Operand}{v:Value}{i:Nat}
theorem Take.BE{jp bk:Nat}{o:Obj}{oi:Oper}(O:As E H S)(U:S[jp]? =some [(bk,o)])(hi:ops[i]? =some oi)(K:(!Eg oi.op&&Br n oi.dst)=true)(hw:AY L ops oi=some true)
  (h:∀ρ,Ff L ρ->As (plus E bk o) H (S.set jp [])->lp P (execOp ρ oi) (Al (plus E bk o) H (S.set jp [])) (λY s'=>∃v S',Y= .value v/\s'=Al (plus E bk o) H S'/\As (plus E bk o) H S'/\S'[jp]? =some []/\
   (As E H (S'.set jp [(bk,o)])->AT J Q b n ds ops k cs m (AO [bk]) fuel (Bi listed i) (AB L oi.dst v) (Al E H (S'.set jp [(bk,o)])))) (λ_ _=>False)):
  Take J Q b n ds ops k cs m (AO [bk]) fuel listed L (Al E H S) i:=by
 simp only [Bool.and_eq_true] at K;refine⟨oi,hi,K.1,K.2,hw,λρ Z=>?_⟩;obtain⟨ac,ag⟩:=YX O U;rw [ac];refine EH _ (h ρ Z ag) ?_ (λ_ _ h=>h);rintro Y s' ⟨v,S',rfl,rfl,al,am,ap⟩;obtain⟨aq,av⟩:=Wp O U al am;show AT J Q b n ds ops k cs m (AO [bk]) fuel (Bi listed i) (AB L oi.dst v) (CH (AO [bk]) (Al E H S) (Al (plus E bk o) H S'));rw [aq];exact ap av
end
section
variable {b:Frame}{n:Nat}{m fuel:Nat}
variable {x:Operand}{v:Value}{i:Nat}
theorem Take.K1{oi:Oper}(hi:ops[i]? =some oi)(K:(!Eg oi.op&&Br n oi.dst)=true)(hw:AY L ops oi=some true)
  (h:∀ρ,Ff L ρ->lp P (execOp ρ oi) s (λO s'=>match O with
   | .value v=>AT J Q b n ds ops k cs m Dl fuel (Bi listed i) (AB L oi.dst v) s'
   | .skip=>AT J Q b n ds ops k cs m Dl fuel (Bi listed i) (AB L oi.dst undef) s'
   | _=>False) (λ_ _=>False)):Take J Q b n ds ops k cs m Dl fuel listed L s i:=by
 simp only [Bool.and_eq_true] at K
 refine⟨oi,hi,K.1,K.2,hw,λρ Y=>EH _ (h ρ Y) ?_ (λ_ _ h=>h)⟩
 intro O s' U
 cases O with
 | value v=>exact U
 | skip=>exact U
 | _=>exact U.elim
theorem Take.Eh{α:Type}{pp:Rp α}{len:Nat}{K:Array (Nat×Operand)}(vs:Lv_){z:Value}(xs:List α)(O:As E H S)
  (U:ops[i]? =some ⟨d,.buildSlice t len K,ty,p,af,g⟩) (hw:AY L ops ⟨d,.buildSlice t len K,ty,p,af,g⟩=some true) (Y:Br n d=true)
  (ht:P.underlying t=some (.slice e)) (Z:Bv P e=some pp.n) (ac:zeroOf P e=some z) (ag:decide (0<len*pp.n/\len*pp.n<=2 ^ 24)=true)
  (al:K.toList.mapM (λq=>(ev L q.2).map λv=>(q.1,v))=some ((vs.zipIdx 0).map λq=>(q.2,q.1)))
  (am:vs.length=len) (ap:xs.length=len) (aq:KX pp E xs vs)
  (h:∀r seg,OL e pp E (some ⟨r,0,none⟩) len seg xs->As E H (S++ [seg])->AT J Q b n ds ops k cs m Dl fuel (Bi listed i) (AB L d (.slice (some ⟨r,0,none⟩) xs.length len)) (Al E H (S++ [seg]))):
  Take J Q b n ds ops k cs m Dl fuel listed L (Al E H S) i:=
 Take.K1 U (by simp [Eg,Y]) hw λρ av=>TX av vs xs ht Z ac ag al am ap aq O λr seg aw ay=>h r seg aw ay
theorem Take.app0{α:Type}{pp:Rp α}{t1:TypeId}{U c cx:Nat}{a ax:Option Addr}{seg Z:Seg}{xs ys Y:List α}{ats:Array TypeId}{z:Value}(j ac:Nat)(al:As E H S)(am:Cz xs ys=some Y)
  (ap:ops[i]? =some ⟨d,.call ⟨.builtin .append,#[x,y],ats⟩,ty,p,af,g⟩) (hw:AY L ops ⟨d,.call ⟨.builtin .append,#[x,y],ats⟩,ty,p,af,g⟩=some true) (aq:Br n d=true)
  (av:ev L x=some (.slice a xs.length c)) (aw:ev L y=some (.slice ax ys.length cx)) (ay:ats[0]? =some t) (az:ats[1]? =some t1) (ht:P.underlying t=some (.slice e)) (a0:P.underlying t1=some (.slice e)) (a1:Bv P e=some pp.n) (hb:F0 P e=some U) (a2:zeroOf P e=some z) (a3:z.cells.size=pp.n)
  (a4:0<U) (a5:U<=64) (hg:OL e pp E a c seg xs) (a6:OL e pp E ax cx Z ys) (a7:S[j]? =some seg) (a8:S[ac]? =some Z)
  (h:∀K O g seg',OL e pp E K O seg' Y->As E H (S.set j (g++seg'))->AT J Q b n ds ops k cs m Dl fuel (Bi listed i) (AB L d (.slice K Y.length O)) (Al E H (S.set j (g++seg')))):
  Take J Q b n ds ops k cs m Dl fuel listed L (Al E H S) i:=
 Take.K1 ap (by simp [Eg,aq]) hw λρ ag=>YB j ac am (ag _ _ av) (ag _ _ aw) ay az ht a0 a1 hb a2 a3 a4 a5 hg a6 al a7 a8 λK O a9 seg' bb be=>h K O a9 seg' bb be
theorem Take.Jv{z:Value}(O:As E H S)(U:ops[i]? =some ⟨d,.alloc e,ty,p,af,g⟩)(hw:AY L ops ⟨d,.alloc e,ty,p,af,g⟩=some true)(Y:Br n d=true)(Z:zeroOf P e=some z)
  (h:∀r,As E H (S++ [[(r,.cells z.cells e (0,0))]])->AT J Q b n ds ops k cs m Dl fuel (Bi listed i) (AB L d (.pointer (some ⟨r,0,none⟩))) (Al E H (S++ [[(r,.cells z.cells e (0,0))]]))):
  Take J Q b n ds ops k cs m Dl fuel listed L (Al E H S) i:=
 Take.K1 U (by simp [Eg,Y]) hw λρ _=>by
  show lp P (do pure (Next.value (← Instr.alloc e true (.tuple #[])))) _ _ _
  refine Az _ _ ?_
  unfold Instr.alloc
  refine Az _ _ (Hu Z ?_)
  refine Az _ _ (Ip O λr K=>?_)
  rw [(Fo K).1]
  exact h r (Fo K).2
end
theorem CE{α:Type}{kk:Nat}{pp:Rp α}{E:LH}{ws:Lv_}{xs:List α}(K:(rA kk pp).r E ws xs):ws.length=kk*pp.n:=(rA kk pp).len K
theorem HW{α:Type}{kk:Nat}{pp:Rp α}{E:LH}{ws:Lv_}{xs:List α}{m:Int}{x:α}(O:(rA kk pp).r E ws xs)(hm:ix xs m=some x):∃us,pp.r E us x/\0<=m/\m<kk/\(∀j w,us[j]? =some w->ws[m.toNat*pp.n+j]? =some w):=by
 obtain⟨U,wss,rfl,Y,K⟩:=O;obtain⟨m,rfl,hm⟩:=Gq hm;have ac:m<xs.length:=(List.getElem?_eq_some_iff.1 hm).1;have hw:wss[m]? =some wss[m]:=List.getElem?_eq_getElem (by omega);exact⟨wss[m],K m x _ hm hw,by omega,by omega,λj w Z=>Kz (It (Y.trans U.symm) K) hw j w Z⟩
section
variable {b:Frame}{n:Nat}
variable {x:Operand}{i:Nat}
theorem Iq{α:Type}{kk:Nat}{pp:Rp α}{a:Addr}{ws:Lv_}{xs:List α}(K:(rA kk pp).r E ws xs)(ht:Dc P t=some true)(O:Bv P t=some (kk*pp.n))(U:ρ x= .pointer (some a))(h:∀j v,ws[j]? =some v->s.cell? (a.add j)=some v):Yl P ⟨d,.load t x,ty,p,af,g⟩ ρ s (.agg ws.toArray):=
 FR ht (by rw [CE K];exact O) U h
theorem Uq{α:Type}{pp:Rp α}{kk:Nat}{ws:Lv_}{xs:List α}{xv:α}{m:Int}{O:Bool}(Y:(rA kk pp).r E ws xs)(hm:ix xs m=some xv)
  (aq:ops[i]? =some ⟨d,.index t x y,ty,p,af,g⟩) (hw:AY L ops ⟨d,.index t x y,ty,p,af,g⟩=some true) (av:BY b n ⟨d,.index t x y,ty,p,af,g⟩=true)
  (aw:ev L x=some (.agg ws.toArray)) (ay:ev L y=some (.int kd m)) (ht:P.underlying t=some (.array kk e)) (Z:Bv P e=some pp.n) (az:Dc P e=some O)
  (h:∀us,pp.r E us xv->JL J Q b n (AB L d (if O then .agg us.toArray else us.headD undef)) ds (.inRegion ops rest::k) cs s) (a0:O=false->pp.n=1):
  JL J Q b n L ds (.inRegion ops (i::rest)::k) cs s:=by
 obtain⟨us,ac,a1,a2,ag⟩:=HW Y hm;have hlen:=pp.len ac;have a3:=CE Y;refine Bf aq hw av (λρ al=>?_) (h us ac);refine FQ (sm:=Instr.index t (ρ x) (ρ y)) V ?_;rw [al _ _ aw,al _ _ ay];unfold Instr.index;simp only [asIntOf,Il];refine Az (x:=underlying t) _ (Cx ht ?_);simp only [a1,a2,and_self,if_true];refine Az (x:=Go.sizeOf e) _ (Fb Z ?_);unfold Go.part;refine Az (x:=isAgg e) _ (Mq az ?_);have a5:m.toNat*pp.n+pp.n<=ws.length:=by
  rw [a3];have:(m.toNat+1)*pp.n<=kk*pp.n:=Nat.mul_le_mul_right _ (by omega);rw [Nat.succ_mul] at this;exact this
 cases O with
 | true=>
  simp only [if_true];refine Az (x:=Go.sizeOf e) _ (Fb Z ?_);have a4:ws.toArray.extract (m.toNat*pp.n) (m.toNat*pp.n+pp.n)=us.toArray:=by
   apply Array.ext_getElem?;intro j;by_cases am:j<us.length
   ·have U:=ag j us[j] (List.getElem?_eq_getElem am);simp only [Array.getElem?_extract,List.size_toArray,List.getElem?_toArray];rw [if_pos (by omega),U];simp [am]
   ·rw [Array.getElem?_eq_none (by simp;omega),Array.getElem?_eq_none (by simp;omega)]
  rw [a4];exact⟨V,V⟩
 | false=>
  have ap:=a0 V;obtain⟨w,rfl⟩:∃w,us= [w]:=by
   match us,hlen with
   | [w],_=>exact⟨w,rfl⟩
   | [],K=>rw [ap] at K;cases K
   | _::_::_,K=>rw [ap] at K;simp at K
  have U:=ag 0 w V;simp only [Bool.false_eq_true,if_false,List.getElem?_toArray];rw [Nat.add_zero] at U;rw [U];exact⟨V,V⟩
end
theorem OL.dv{α:Type}{e:TypeId}{pp:Rp α}{E:LH}{a:Option Addr}{c:Nat}{seg:Seg}{xs:List α}{m:Int}{x:α}(hg:OL e pp E a c seg xs)(hm:ix xs m=some x):
  ∃bk f ws,a=some ⟨bk,0,none⟩/\seg= [(bk,.cells f e (0,0))]/\pp.r E ws x/\(∀j w,ws[j]? =some w->f[m.toNat*pp.n+j]? =some w):=by
 obtain⟨m,rfl,hm⟩:=Gq hm;obtain⟨bk,f,ws,K,O,U,Y,_⟩:=OL.get hg hm;exact⟨bk,f,ws,K,O,U,Y⟩
def HD(S:List Seg):List Nat->Prop
 | []=>True
 | bk::bks=>(∃(j:Nat) (o:Obj),S[j]? =some [(bk,o)])/\HD S bks
theorem HD.mem{S:List Seg}:∀{bks:List Nat},HD S bks->∀bk∈bks,∃(j:Nat) (o:Obj),S[j]? =some [(bk,o)]
 | [],_,_,h=>by cases h
 | b::bks,h,bk,hb=>by
  rcases List.mem_cons.1 hb with rfl | hb
  ·exact h.1
  ·exact h.2.mem bk hb
theorem HD.free{E H:LH}{S:List Seg}{bks:List Nat}(h:HD S bks)(K:As E H S):∀x,AO bks x=true->E x=none:=λx O=>by
 obtain⟨j,o,U⟩:=h.mem x (by simpa [AO] using O)
 exact Oi K U
section
variable {b:Frame}{n:Nat}{m fuel:Nat}
variable {x:Operand}{v:Value}{i:Nat}
theorem Sw{bks:List Nat}{f:FuncId}{args:Array Operand}{ats:Array TypeId}{vs:Lv_}{R:Value->LH->Seg->Prop}(am:HD S bks)(ap:AP J f vs E [] R)(aq:Region.ready .any ops listed= [i])
  (av:ops[i]? =some ⟨d,.call ⟨.value (.func f),args,ats⟩,ty,p,af,g⟩) (aw:Br n d=true) (hw:AY L ops ⟨d,.call ⟨.value (.func f),args,ats⟩,ty,p,af,g⟩=some true) (hb:Em P f=true) (ay:evs L args.toList=some vs) (Z:As E H S)
  (az:∀v E' seg',Le E E'->R v E' seg'->As E' H (S++ [seg'])->AT J Q b n ds ops k cs m (AO bks) fuel (Bi listed i) (AB L d v) (Al E' H (S++ [seg']))):
  AT J Q b n ds ops k cs m (AO bks) (fuel+1) listed L (Al E H S):=by
 have a0:=Fa.KY (ap (Bc S.flatten H) trivial) (by rintro v s' ⟨E',B',_,_,_,rfl⟩;rfl);refine AT.call V aq av aw hw hb ay a0 ?_;rintro v a8 ⟨⟨E',B',hle,a1,a2,rfl⟩,w,a3⟩;have e2:mk E' (Bc S.flatten H) B'=mk E' H (B'++S.flatten):=by unfold mk;rw [F5]
 have a4:Nd E' H S.flatten:=Nd.grow Z λx O=>by
  have a5:=a3.d x O;have U:Bc B' (Bc S.flatten H) x=none:=a5;exact(HS U).1
 have ac:Nd E' H (B'++S.flatten):=Nd.glue a2 a4;have ag:(B'++S.flatten).Perm (S++ [B']).flatten:=by rw [GX];exact List.perm_append_comm
 have al:As E' H (S++ [B']):=Nd.perm ac ag;rw [e2,Fu ac ag];refine⟨V,λx o O=>?_,az v E' B' hle a1 al⟩;by_cases hd:AO bks x=true
 ·obtain⟨j,o',Y⟩:=am.mem x (by simpa [AO] using hd);have U:(Al E H S).get x=some o':=Ei (i:=0) Z Y V;have a6:j<S.length:=(List.getElem?_eq_some_iff.1 Y).1;have a7:(Al E' H (S++ [B'])).get x=some o':=Ei (i:=0) al (by rw [List.getElem?_append_left a6];exact Y) rfl;have K:(if AO bks x then(Al E H S).get x else E x)=some o:=O
  show(if AO bks x then(Al E' H (S++ [B'])).get x else E' x)=some o
  rw [if_pos hd] at K ⊢;rw [a7,← U];exact K
 ·have K:(if AO bks x then(Al E H S).get x else E x)=some o:=O
  show(if AO bks x then(Al E' H (S++ [B'])).get x else E' x)=some o
  rw [if_neg hd] at K ⊢;exact hle _ _ K
theorem XP(m:Nat)(bks:List Nat){id:Nat}(O:HD S bks)(U:As E H S)(hm:P.follows .mixedOrders=true)(K:(b.kind != .early)=true)(ht:EB ops m=true)
  (h:EB ops m=true->AT J Q b n ds ops k cs m (AO bks) ops.size (Array.replicate ops.size false) L (Al E H S)):JL J Q b n L ds (.code (.region id ops true)::k) cs (Al E H S):=
 PW m (AO bks) V hm K (h ht)
theorem Ca{bks:List Nat}{bk o:Nat}{c:Av_}{f:Nat×Nat}{w:Value}{s':St}(j:Nat)(K:As E H S)(O:S[j]? =some [(bk,.cells c e f)])(U:AO bks bk=true)(hs:∀x o,(BE (AO bks) (Al E H S)).E x=some o->s'.E x=some o)(hw:c[o]? =some w):s'.cell? ⟨bk,o,none⟩=some w:=by
 have Y:(BE (AO bks) (Al E H S)).E bk=some (.cells c e f):=by
  show(if AO bks bk then(Al E H S).get bk else E bk)=_
  rw [if_pos U];exact Ei (i:=0) K O V
 have Z:=hs _ _ Y;unfold St.cell? St.get;rw [Z];exact hw
theorem cm{bks:List Nat}{s':St}(O:As E H S)(hs:∀x o,(BE (AO bks) (Al E H S)).E x=some o->s'.E x=some o)(U:HD S bks):∀x o,E x=some o->s'.E x=some o:=λx o K=>hs x o (by
 show(if AO bks x then(Al E H S).get x else E x)=some o
 rw [if_neg (λhd=>by rw [U.free O x hd] at K;cases K)];exact K)
end
theorem SE{P:Program}{s:St}{ρ:Operand->Value}{x y:Operand}{d:Option Tmp}{t ty e:TypeId}{p:String}{af:Ae_}{g:On_}{kd:IntKind}{α:Type}{xs:List α}{xv:α}{m:Int}{bk c K:Nat}(hm:ix xs m=some xv)(ht:P.underlying t=some (.slice e))(O:Bv P e=some K)(U:ρ x= .slice (some ⟨bk,0,none⟩) xs.length c)(Y:ρ y= .int kd m):
  Yl P ⟨d,.indexAddr t x y,ty,p,af,g⟩ ρ s (.pointer (some ⟨bk,m.toNat*K,none⟩)):=by
 obtain⟨m,rfl,hm⟩:=Gq hm;have Z:m<xs.length:=(List.getElem?_eq_some_iff.1 hm).1;have:=No (P:=P) (s:=s) (d:=d) (ty:=ty) (p:=p) (af:=af) (g:=g) ht O U Y ⟨by omega,by omega⟩;rw [El rfl] at this;simpa using this
def IG(ws:Lv_)(q:Nat)(us:Lv_):Lv_:=(Be ws.toArray q us).toList
theorem Nu{ws us:Lv_}{q:Nat}(h:q+us.length<=ws.length)(j:Nat):(IG ws q us)[j]? =if q<=j/\j<q+us.length then us[j - q]? else ws[j]? :=by
 unfold IG;rw [Array.getElem?_toList,Mn us _ q (by simpa using h)];simp
theorem V5{l ws us:Lv_}{q:Nat}(h:q+us.length<=ws.length):Be (l++ws).toArray (l.length+q) us=(l++IG ws q us).toArray:=by
 apply Array.ext_getElem?;intro j;rw [Mn us _ _ (by simp;omega)];simp only [List.getElem?_toArray];by_cases O:l.length+q<=j/\j<l.length+q+us.length
 ·rw [if_pos O,List.getElem?_append_right (by omega),Nu h,if_pos (by omega)];congr 1;omega
 ·rw [if_neg O];rcases Nat.lt_or_ge j l.length with K | K
  ·rw [List.getElem?_append_left K,List.getElem?_append_left K]
  ·rw [List.getElem?_append_right K,List.getElem?_append_right K,Nu h,if_neg (by omega)]
theorem J0{ws us:Lv_}(h:us.length=ws.length):IG ws 0 us=us:=by
 apply List.ext_getElem?;intro j;rw [Nu (by omega)];split
 ·simp
 ·rename_i K;rw [List.getElem?_eq_none (by omega),List.getElem?_eq_none (by omega)]
theorem G9{E H:LH}{S:List Seg}{bk:Nat}{l ws:Lv_}{e:TypeId}{f:Nat×Nat}(j:Nat)(K:As E H S)(O:S[j]? =some [(bk,.cells (l++ws).toArray e f)]):∀q v,ws[q]? =some v->(Al E H S).cell? (Addr.add ⟨bk,l.length,none⟩ q)=some v:=λq v U=>by
 rw [El rfl]
 refine BS K O ?_
 simp only [List.getElem?_toArray]
 rw [List.getElem?_append_right (by omega)]
 rw [show l.length+q - l.length=q by omega];exact U
theorem Jl{E H:LH}{S:List Seg}{bk o:Nat}{l ws:Lv_}{e:TypeId}{f:Nat×Nat}{w:Value}(j:Nat)(K:As E H S)(O:S[j]? =some [(bk,.cells (l++ws).toArray e f)])(U:ws[o]? =some w):(Al E H S).cell? ⟨bk,l.length+o,none⟩=some w:=by
 have:=G9 j K O o w U
 rwa [El rfl] at this
theorem Oe{α:Type}{kk:Nat}{pp:Rp α}{E:LH}{ws us:Lv_}{xs:List α}{m:Int}{x y:α}(Z:(rA kk pp).r E ws xs)(hm:ix xs m=some x)(hu:pp.r E us y):(rA kk pp).r E (IG ws (m.toNat*pp.n) us) (xs.set m.toNat y)/\m.toNat*pp.n+us.length<=ws.length:=by
 have aw:=CE Z;obtain⟨ac,wss,rfl,ag,al⟩:=Z;obtain⟨m,rfl,hm⟩:=Gq hm;have ay:m<xs.length:=(List.getElem?_eq_some_iff.1 hm).1;have am:=pp.len hu;have az:=It (ag.trans ac.symm) al;have ap:m*pp.n+us.length<=wss.flatten.length:=by
  rw [aw,am];have:(m+1)*pp.n<=kk*pp.n:=Nat.mul_le_mul_right _ (by omega);rw [Nat.succ_mul] at this;exact this
 simp only [Int.toNat_natCast];refine⟨⟨by simpa using ac,wss.set m us,?_,by simpa using ag,λi a0 a1 O U=>?_⟩,ap⟩
 ·apply List.ext_getElem?;intro j;rw [Nu ap];have key:∀(wss:List (Lv_)) (m:Nat) (hm:m<wss.length),(∀ws∈wss,ws.length=pp.n)->∀j,(wss.set m us).flatten[j]? =if m*pp.n<=j/\j<m*pp.n+us.length then us[j - m*pp.n]? else wss.flatten[j]? :=by
   intro wss
   induction wss with
   | nil=>intro m hm;simp at hm
   | cons vs wss a2=>
    intro m hm aq j;have a3:vs.length=pp.n:=aq vs (by simp);cases m with
    | zero=>
     simp only [List.set_cons_zero,List.flatten_cons,Nat.zero_mul,Nat.zero_le,true_and,Nat.zero_add,Nat.sub_zero];split
     ·rename_i K;rw [List.getElem?_append_left K]
     ·rename_i K;rw [List.getElem?_append_right (by omega),List.getElem?_append_right (by omega),am,a3]
    | succ m=>
     simp only [List.set_cons_succ,List.flatten_cons];have Y:(m+1)*pp.n=m*pp.n+pp.n:=Nat.succ_mul _ _;rcases Nat.lt_or_ge j vs.length with K | K
     ·rw [List.getElem?_append_left K,List.getElem?_append_left K,if_neg (by omega)]
     ·rw [List.getElem?_append_right K,List.getElem?_append_right K,a2 m (by simpa using hm) (λws a4=>aq ws (List.mem_cons_of_mem _ a4))];by_cases av:m*pp.n<=j - vs.length/\j - vs.length<m*pp.n+us.length
      ·rw [if_pos av,if_pos (by omega)];congr 1;omega
      ·rw [if_neg av,if_neg (by omega)]
  exact(key wss m (by omega) az j).symm
 ·rw [List.getElem?_set] at O U;by_cases Y:m=i
  ·subst Y;rw [if_pos rfl,if_pos ay] at O;rw [if_pos rfl,if_pos (by omega)] at U;cases O;cases U;exact hu
  ·rw [if_neg Y] at O U;exact al i a0 a1 O U
theorem He{α:Type}{kk:Nat}{pp:Rp α}{E:LH}{w:Value}{x:α}(h:pp.r E [w] x):(rA kk pp).r E (List.replicate kk w) (List.replicate kk x):=by
 refine⟨by simp,List.replicate kk [w],?_,by simp,λi y us K hu=>?_⟩
 ·induction kk with
  | zero=>rfl
  | succ k O=>rw [List.replicate_succ,List.replicate_succ,List.flatten_cons,← O];rfl
 ·have U:=List.eq_of_mem_replicate (List.mem_of_getElem? K);have e2:=List.eq_of_mem_replicate (List.mem_of_getElem? hu);subst U e2;exact h
section
variable {b:Frame}{n:Nat}
variable {x:Operand}{i:Nat}
theorem Jq{α:Type}{kk:Nat}{pp:Rp α}{ws:Lv_}{xs:List α}{xv:α}{m:Int}{bk o:Nat}(K:(rA kk pp).r E ws xs)(hm:ix xs m=some xv)(ht:P.underlying t=some (.array kk e))(O:Bv P e=some pp.n)(U:ρ x= .pointer (some ⟨bk,o,none⟩))(Y:ρ y= .int kd m):
  Yl P ⟨d,.indexAddr t x y,ty,p,af,g⟩ ρ s (.pointer (some ⟨bk,o+m.toNat*pp.n,none⟩)):=by
 obtain⟨us,ag,Z,ac,al⟩:=HW K hm;have:=R3 (P:=P) (s:=s) (d:=d) (ty:=ty) (p:=p) (af:=af) (g:=g) ht O U Y ⟨Z,ac⟩;rw [El rfl] at this;exact this
theorem HT{bk o:Nat}{l ws us:Lv_}{v:Value}(j:Nat)(U:ops[i]? =some ⟨d,.store t x y,ty,p,af,g⟩)(hw:AY L ops ⟨d,.store t x y,ty,p,af,g⟩=some true)(Y:BY b n ⟨d,.store t x y,ty,p,af,g⟩=true)(Z:As E H S)
  (ac:ev L x=some (.pointer (some ⟨bk,l.length+o,none⟩))) (ag:ev L y=some v) (K:v.cells.toList=us) (al:Bv P t=some us.length) (am:∀u∈us,Dv u=true) (ap:S[j]? =some [(bk,.cells (l++ws).toArray e (0,0))]) (hle:o+us.length<=ws.length)
  (h:As E H (S.set j [(bk,.cells (l++IG ws o us).toArray e (0,0))])->JL J Q b n (AB L d undef) ds (.inRegion ops rest::k) cs (Al E H (S.set j [(bk,.cells (l++IG ws o us).toArray e (0,0))]))):
  JL J Q b n L ds (.inRegion ops (i::rest)::k) cs (Al E H S):=by
 have aq:v.cells.size=us.length:=by rw [← K];simp
 refine JS.store (v:=v) (off:=l.length+o) j U hw Y Z ac ag (by rw [aq];exact al) (by rw [K];exact am) ap (by simp;omega) λO=>?_;rw [K,V5 hle] at O ⊢;exact h O
end
section
variable {x:Operand}{v:Value}
theorem T3{n:Nat}{kd:IntKind}{a b:Int}(ht:P.underlying t=some (.int kd)){Q:Bool->St->Prop}{X:Halt->St->Prop}(k:Q (a==b) s):lp P (Op.equalIn (n+1) t (.int kd a) (.int kd b)) s Q X:=by
 unfold Op.equalIn;refine Az _ _ (Cx ht ?_);simp only [if_true];exact k
end
theorem XS{E H:LH}{S:List Seg}{bks:List Nat}{bk:Nat}{l ws:Lv_}{e:TypeId}{f:Nat×Nat}{s':St}(j:Nat)(K:As E H S)(O:S[j]? =some [(bk,.cells (l++ws).toArray e f)])(U:AO bks bk=true)(hs:∀x o,(BE (AO bks) (Al E H S)).E x=some o->s'.E x=some o):∀q v,ws[q]? =some v->s'.cell? (Addr.add ⟨bk,l.length,none⟩ q)=some v:=λq v Y=>by
 rw [El rfl]
 refine Ca j K O U hs ?_
 simp only [List.getElem?_toArray]
 rw [List.getElem?_append_right (by omega)]
 rw [show l.length+q - l.length=q by omega];exact Y
variable {xt t1 t2:TypeId}{o:Option (Int×Option Int)}
section
variable {x:Operand}{v:Value}
end
def U2{P:Program}(J:Judge P)(v:Value)(args:Av_)(s:St)(R:Value->St->Prop):Prop:=
 ∀(Q:Gs_) (c:Frame) (cs:Lf_),(∀w s',R w s'->J.ok Q (G (c.finish w) cs) s')->
  lp P (do let d ← Deferred.ofValue v args;invoke d.target d.args) s (λK s'=>match K with
   | .enter f a=>J.ok Q (G (Frame.enter P f a .normal) (c::cs)) s'
   | .round l f tm as O=>J.ok Q (G (Frame.round l f tm as O .normal) (c::cs)) s'
   | _=>False) (λ_ _=>False)
def Gy{P:Program}(J:Judge P)(v:Value)(args:Lv_)(E:LH)(B:Seg)(R:Value->LH->Seg->Prop):Prop:=
 ∀H,Nd E H B->U2 J v args.toArray (mk E H B) (λv s'=>∃E' B',Le E E'/\R v E' B'/\Nd E' H B'/\s'=mk E' H B')
section
variable {b:Frame}{n:Nat}{i:Nat}
theorem Gy.ofFn{f:FuncId}{caps vs:Lv_}{B:Seg}{R:Value->LH->Seg->Prop}(hb:Em P f=true)(h:AP J f (vs++caps) E B R):Gy J (.func (.func f) #[] caps.toArray) vs E B R:=λH K Q c cs O=>by
 simp only [Deferred.ofValue,bind,Sem.bind,pure,invoke]
 have e: #[]++vs.toArray++caps.toArray=(vs++caps).toArray:=by simp
 rw [e];exact Ji hb (h H K Q c cs O)
theorem WA{x:Operand}{O:Value}{args:Array Operand}{ats:Array TypeId}{s:St}{vs:Lv_}{R:Value->St->Prop}
  (Y:ops[i]? =some ⟨d,.call ⟨.value x,args,ats⟩,ty,p,af,g⟩) (hw:AY L ops ⟨d,.call ⟨.value x,args,ats⟩,ty,p,af,g⟩=some true) (U:((b.kind != .early)&&Br n d)=true)
  (Z:ev L x=some O) (ac:evs L args.toList=some vs) (ag:U2 J O vs.toArray s R) (al:∀v s',R v s'->JL J Q b n (AB L d v) ds (.inRegion ops rest::k) cs s'):
  JL J Q b n L ds (.inRegion ops (i::rest)::k) cs s:=λT K=>by
 simp only [Bool.and_eq_true] at U
 have am:args.map (BK T)=vs.toArray:=by
  rw [← GW K.Gs ac];apply Array.ext';simp
 refine Judge.oper Y (Cq K hw) (by simpa using U.1) (.inr λc ap=>by cases ap) ?_;have hd:lp P (execOp (BK T) ⟨d,.call ⟨.value x,args,ats⟩,ty,p,af,g⟩) s (upon J Q b T ds ops i rest k cs d) (LL J Q b T ds ops i rest k cs):=by
  have aq:execOp (BK T) ⟨d,.call ⟨.value x,args,ats⟩,ty,p,af,g⟩=(do let d ← Deferred.ofValue O vs.toArray;invoke d.target d.args):=by
   simp only [execOp,resolve,am,K.Gs _ _ Z]
  rw [aq];refine EH _ (ag Q (fr b T ds (.inRegion ops (i::rest)::k)) cs λv s' av=>?_) (λaw s' h=>?_) (λ_ _ h=>h.elim)
  ·rw [GV (o:=⟨d,.call ⟨.value x,args,ats⟩,ty,p,af,g⟩) _ _ _ _ _ Y];exact al v s' av _ (K.put U.2 v)
  ·cases aw <;> first | exact h | exact h.elim
 exact hd
theorem Lk{x:Operand}{O:Value}{args:Array Operand}{ats:Array TypeId}{vs:Lv_}{seg:Seg}{R:Value->LH->Seg->Prop}(j:Nat)
  (am:Gy J O vs E seg R) (ap:ops[i]? =some ⟨d,.call ⟨.value x,args,ats⟩,ty,p,af,g⟩) (hw:AY L ops ⟨d,.call ⟨.value x,args,ats⟩,ty,p,af,g⟩=some true) (aq:((b.kind != .early)&&Br n d)=true)
  (K:ev L x=some O) (av:evs L args.toList=some vs) (U:As E H S) (Y:S[j]? =some seg) (aw:∀v E' seg',Le E E'->R v E' seg'->As E' H (S.set j seg')->JL J Q b n (AB L d v) ds (.inRegion ops rest::k) cs (Al E' H (S.set j seg'))):
  JL J Q b n L ds (.inRegion ops (i::rest)::k) cs (Al E H S):=by
 have Z:S.flatten.Perm (seg++(S.set j []).flatten):=(EA (seg':=seg) Y).1.trans List.perm_append_comm;have ac:Nd E H (seg++(S.set j []).flatten):=Nd.perm U Z;have ay:Al E H S=mk E (Bc (S.set j []).flatten H) seg:=by
  rw [show Al E H S=mk E H S.flatten from rfl,Fu U Z];unfold mk;rw [F5]
 rw [ay];refine WA ap hw aq K av (am _ (Nd.front ac)) ?_;rintro v s' ⟨E',B',hle,az,a0,rfl⟩;have e2:mk E' (Bc (S.set j []).flatten H) B'=mk E' H (B'++(S.set j []).flatten):=by unfold mk;rw [F5]
 have a1:Nd E H (S.set j []).flatten:=by
  have:=ac;rw [Nd.iff] at this ⊢;rw [List.map_append,List.nodup_append] at this;exact⟨this.1.2.1,λq a2=>this.2 q (List.mem_append_right _ a2)⟩
 refine TR V λ⟨w,a3⟩=>?_;have a4:Nd E' H (S.set j []).flatten:=a1.grow λx K=>by
  have a5:=a3.d x K;have a6:Bc B' (Bc (S.set j []).flatten H) x=none:=a5;exact(HS a6).1
 have ag:Nd E' H (B'++(S.set j []).flatten):=Nd.glue a0 a4;rw [e2];have al:(B'++(S.set j []).flatten).Perm (S.set j B').flatten:=List.perm_append_comm.trans (EA Y).2.symm;rw [Fu ag al];exact aw v E' B' hle az (Nd.perm ag al)
theorem Take.bZ{bks:List Nat}{m fuel:Nat}{listed:Array Bool}{f:FuncId}{args:Array Operand}{ats:Array TypeId}{vs:Lv_}{R:Value->LH->Seg->Prop}(ap:HD S bks)(Z:As E H S)(aq:AP J f vs E [] R)
  (av:ops[i]? =some ⟨d,.call ⟨.value (.func f),args,ats⟩,ty,p,af,g⟩) (hw:AY L ops ⟨d,.call ⟨.value (.func f),args,ats⟩,ty,p,af,g⟩=some true) (aw:Br n d=true) (hb:Em P f=true) (ay:evs L args.toList=some vs)
  (az:∀v E' seg',Le E E'->R v E' seg'->As E' H (S++ [seg'])->AT J Q b n ds ops k cs m (AO bks) fuel (Bi listed i) (AB L d v) (Al E' H (S++ [seg']))):
  Take J Q b n ds ops k cs m (AO bks) fuel listed L (Al E H S) i:=by
 have a0:=Fa.KY (aq (Bc S.flatten H) trivial) (by rintro v s' ⟨E',B',_,_,_,rfl⟩;rfl);refine⟨_,av,by simp [Eg],aw,hw,λρ ac=>?_⟩;have a1:args.map ρ=vs.toArray:=by
  rw [← GW ac ay];apply Array.ext';simp
 have a2:ρ (.func f)= .func (.func f) #[] #[]:=ac _ _ V;simp only [execOp,resolve,bind,Sem.bind,Deferred.ofValue,a2,pure,invoke];have e: #[]++args.map ρ++ #[]=vs.toArray:=by rw [a1];simp
 rw [e];refine Ji hb ?_;rw [Lb];refine⟨_,a0,?_⟩;rintro v bb ⟨⟨E',B',hle,a3,a4,rfl⟩,w,a5⟩;have e2:mk E' (Bc S.flatten H) B'=mk E' H (B'++S.flatten):=by unfold mk;rw [F5]
 have a6:Nd E' H S.flatten:=Nd.grow Z λx O=>by
  have a7:=a5.d x O;have U:Bc B' (Bc S.flatten H) x=none:=a7;exact(HS U).1
 have ag:Nd E' H (B'++S.flatten):=Nd.glue a4 a6;have al:(B'++S.flatten).Perm (S++ [B']).flatten:=by rw [GX];exact List.perm_append_comm
 have am:As E' H (S++ [B']):=Nd.perm ag al;rw [e2,Fu ag al];refine⟨V,λx o O=>?_,az v E' B' hle a3 am⟩;by_cases hd:AO bks x=true
 ·obtain⟨j,o',Y⟩:=ap.mem x (by simpa [AO] using hd);have U:(Al E H S).get x=some o':=Ei (i:=0) Z Y V;have a8:j<S.length:=(List.getElem?_eq_some_iff.1 Y).1;have a9:(Al E' H (S++ [B'])).get x=some o':=Ei (i:=0) am (by rw [List.getElem?_append_left a8];exact Y) rfl;have K:(if AO bks x then(Al E H S).get x else E x)=some o:=O
  show(if AO bks x then(Al E' H (S++ [B'])).get x else E' x)=some o
  rw [if_pos hd] at K ⊢;rw [a9,← U];exact K
 ·have K:(if AO bks x then(Al E H S).get x else E x)=some o:=O
  show(if AO bks x then(Al E' H (S++ [B'])).get x else E' x)=some o
  rw [if_neg hd] at K ⊢;exact hle _ _ K
theorem Take.Fs{m fuel:Nat}{listed:Array Bool}{f:FuncId}{args:Array Operand}{ats:Array TypeId}{vs:Lv_}{R:Value->LH->Seg->Prop}(O:As E H S)(U:AP J f vs E [] R)
  (Y:ops[i]? =some ⟨d,.call ⟨.value (.func f),args,ats⟩,ty,p,af,g⟩) (hw:AY L ops ⟨d,.call ⟨.value (.func f),args,ats⟩,ty,p,af,g⟩=some true) (Z:Br n d=true) (hb:Em P f=true) (ac:evs L args.toList=some vs)
  (K:∀v E' seg',Le E E'->R v E' seg'->As E' H (S++ [seg'])->AT J Q b n ds ops k cs m Dl fuel (Bi listed i) (AB L d v) (Al E' H (S++ [seg']))):
  Take J Q b n ds ops k cs m Dl fuel listed L (Al E H S) i:=by
 have e:AO []=Dl:=by funext x;rfl
 rw [← e] at K ⊢;exact Take.bZ (bks:= []) trivial O U Y hw Z hb ac K
end
open Go.ConcN (upd upd_ne upd_same)
def Db:Loc->Option Nat | .cell a=>some a.block | .obj r=>some r | _=>none
structure Cd (t:Trace) (w:World) (N:Nat) (S:Nat->St) (Sh:Nat->Prop):Prop where
 fits:∀i,i<N->Fits (S i) w
 hh:∀i j,i<N->j<N->i≠j->∀b,(S i).H b≠none->(S j).H b=none/\(S j).E b=none
 sh:∀i,i<N->∀b,Sh b->(S i).H b=none/\(S i).E b=none
 GI:∀b,Sh b->b<w.heap.size
 clean:∀said,¬Race said t
 low:∀op∈t,op.act.low w.heap.size
 kH:∀i,i<N->∀b,(S i).H b≠none->∀x a,touchAt t x=some a->Db a.loc=some b->Knows t i x
 kE:∀i,i<N->∀b,(S i).E b≠none->∀x a,touchAt t x=some a->Db a.loc=some b->a.write=true->Knows t i x
theorem PO{t:Trace}{x:Nat}{a:Touch}{b n:Nat}(Z:∀op∈t,op.act.low n)(h:touchAt t x=some a)(hb:Db a.loc=some b):b<n:=by
 obtain⟨op,ac,K⟩:=touch_of h;have O:=Z op (mem_of_getElem? ac);cases U:op.act with
 | access e=>
  rw [U] at K O;simp only [MemAct.touch?,Option.some.injEq] at K;subst K;simp only [MemAct.low] at O;cases Y:e.loc with
  | cell ad=>rw [Y] at O hb;simp only [Db,Option.some.injEq] at hb;subst hb;exact O
  | obj r=>rw [Y] at O hb;simp only [Db,Option.some.injEq] at hb;subst hb;exact O
  | _=>rw [Y] at hb;simp [Db] at hb
 | mark m=>
  rw [U] at K O;cases m <;> simp only [MemAct.touch?] at K <;> first
   | (simp at K;done)
   | (simp only [Option.some.injEq] at K;subst K;simp only [Db,Option.some.injEq] at hb;subst hb;exact O)
 | _=>rw [U] at K;simp [MemAct.touch?] at K
theorem Li{s:St}{w w':World}{e:Event}{a:Touch}{b:Nat}(h:Ev s w w' e)(K:(MemAct.ofEvent e).touch? =some a)(hb:Db a.loc=some b):
  Hb s w w' b a.write:=by
 obtain⟨loc,wr,Y⟩:=e;cases loc with
 | cell ad=>
  obtain⟨O,U⟩:=h;simp only at O;subst O;simp only [MemAct.ofEvent,MemAct.touch?,Option.some.injEq] at K;subst K;simp only [Db,Option.some.injEq] at hb;subst hb;exact U
 | obj r=>
  obtain⟨O,U⟩:=h;simp only at O;subst O;simp only [MemAct.ofEvent,MemAct.touch?,Option.some.injEq] at K;subst K;simp only [Db,Option.some.injEq] at hb;subst hb;exact U
 | mark m=>
  cases m <;> simp only [Ev] at h <;> first | exact h.elim | simp [MemAct.ofEvent,MemAct.touch?] at K
 | _=>exact h.elim
theorem ZK{s:St}{w w':World}{e:Event}(h:Ev s w w' e):(MemAct.ofEvent e).low w'.heap.size:=by
 obtain⟨loc,wr,U⟩:=e;cases loc with
 | cell ad=>obtain⟨K,O⟩:=h;simp only at K;subst K;exact O.1
 | obj r=>obtain⟨K,O⟩:=h;simp only at K;subst K;cases wr <;> exact O.1
 | mark m=>cases m <;> simp only [Ev] at h <;> first | exact h.elim | exact trivial
 | _=>exact h.elim
theorem Vz{l:Loc}(h:l.isMemory=true):∃b,Db l=some b:=by
 cases l <;> simp [Loc.isMemory] at h <;> exact⟨_,rfl⟩
theorem Cd.own{t:Trace}{w w':World}{N:Nat}{S:Nat->St}{Sh:Nat->Prop}(h:Cd t w N S Sh){i:Nat}(hi:i<N){s':St}{fn:FuncId}{pos:String}{es:Array Event}
  (bb:Fits s' w') (Y:Fr (S i) w s' w') (ay:∀e∈es,Ev (S i) w w' e):Cd (t++MemOp.ofEvents i fn pos es) w' N (upd S i s') Sh:=by
 have a5:∀j,j<N->j≠i->∀b o,((S j).H b=some o∨(S j).E b=some o)->w'.heap[b]? =some o/\(S i).H b=none:=by
  intro j U Z b o K;have hw:w.heap[b]? =some o:=K.elim ((h.fits j U).h b o) ((h.fits j U).e b o);have al:b<w.heap.size:=by
   rcases Nat.lt_or_ge b w.heap.size with a1 | a1
   ·exact a1
   ·simp [Array.getElem?_eq_none a1] at hw
  have a6:(S i).H b=none:=by
   cases be:(S i).H b with
   | none=>rfl
   | some u=>
    have:=h.hh i j hi U (Ne.symm Z) b (by rw [be];simp);rcases K with K | K
    ·rw [this.1] at K;cases K
    ·rw [this.2] at K;cases K
  exact⟨by rw [Y.keep b al a6,hw],a6⟩
 have az:∀j,j<N->∀b,w.heap.size<=b->(S j).H b=none/\(S j).E b=none:=by
  intro j U b hb;constructor
  ·cases O:(S j).H b with
   | none=>rfl
   | some o=>have:=(h.fits j U).h b o O;simp [Array.getElem?_eq_none hb] at this
  ·cases O:(S j).E b with
   | none=>rfl
   | some o=>have:=(h.fits j U).e b o O;simp [Array.getElem?_eq_none hb] at this
 have am:∀op∈MemOp.ofEvents i fn pos es,op.g=i/\∃e∈es,op.act=MemAct.ofEvent e:=by
  intro op am;obtain⟨e,he,rfl⟩:=mem_ofEvents am;exact⟨V,e,he,V⟩
 have hold:∀x a,touchAt t x=some a->touchAt (t++MemOp.ofEvents i fn pos es) x=some a:=by
  intro x a O;obtain⟨op,K,_⟩:=touch_of O;rw [touchAt_old (lt_size_of_getElem? K)];exact O
 have a0:∀x a,touchAt (t++MemOp.ofEvents i fn pos es) x=some a->touchAt t x=some a∨(Knows (t++MemOp.ofEvents i fn pos es) i x/\∃e∈es,(MemAct.ofEvent e).touch? =some a):=by
  intro x a O;obtain⟨op,K,a7⟩:=touch_of O;rcases getElem?_append_cases K with⟨al,bi⟩ | ⟨_,bn⟩
  ·left;rw [touchAt_of bi];exact a7
  ·right;obtain⟨hg,e,he,aq⟩:=am op bn;exact⟨by have:=knows_own K;rwa [hg] at this,e,he,by rw [← aq];exact a7⟩
 have bo:∀j,j<N->j≠i->∀b,s'.H b≠none->(S j).H b=none/\(S j).E b=none:=by
  intro j U Z b hb;rcases Y.own b hb with O | O
  ·exact h.hh i j hi U (Ne.symm Z) b O
  ·exact az j U b O
 have bv:∀j,j<N->j≠i->∀b,(S j).H b≠none->s'.H b=none/\s'.E b=none:=by
  intro j U Z b hb;have ac:=h.hh j i U hi Z b hb;have al:¬w.heap.size<=b:=λO=>hb (az j U b O).1;constructor
  ·cases O:s'.H b with
   | none=>rfl
   | some o=>
    rcases Y.own b (by rw [O];simp) with y | y
    ·exact absurd ac.1 y
    ·exact absurd y al
  ·cases O:s'.E b with
   | none=>rfl
   | some o=>
    rcases Y.Fi b (by rw [O];simp) with y | y | y
    ·exact absurd ac.2 y
    ·exact absurd ac.1 y
    ·exact absurd y al
 constructor
 ·intro j U;by_cases e:j=i
  ·subst e;rw [upd_same];exact bb
  ·rw [upd_ne _ _ e];exact⟨λb o K=>(a5 j U e b o (.inr K)).1,λb o K=>(a5 j U e b o (.inl K)).1,(h.fits j U).d⟩
 ·intro a c a8 av Z b hb;by_cases e:a=i
  ·subst e;rw [upd_same] at hb;rw [upd_ne _ _ (Ne.symm Z)];exact bo c av (Ne.symm Z) b hb
  ·rw [upd_ne _ _ e] at hb;by_cases a9:c=i
   ·subst a9;rw [upd_same];exact bv a a8 Z b hb
   ·rw [upd_ne _ _ a9];exact h.hh a c a8 av Z b hb
 ·intro j U b hb;by_cases e:j=i
  ·subst e;rw [upd_same];have ac:=h.sh j U b hb;have al:=h.GI b hb;constructor
   ·cases O:s'.H b with
    | none=>rfl
    | some o=>
     rcases Y.own b (by rw [O];simp) with y | y
     ·exact absurd ac.1 y
     ·omega
   ·cases O:s'.E b with
    | none=>rfl
    | some o=>
     rcases Y.Fi b (by rw [O];simp) with y | y | y
     ·exact absurd ac.2 y
     ·exact absurd ac.1 y
     ·omega
  ·rw [upd_ne _ _ e];exact h.sh j U b hb
 ·exact λb hb=>Nat.lt_of_lt_of_le (h.GI b hb) Y.size
 ·intro said;refine noRace_append (g:=i) (h.clean said) (λop K=>(am op K).1) λx a O op K c av bw=>?_;obtain⟨_,e,he,aq⟩:=am op K;rw [aq] at av;obtain⟨bx,hm,ap,_⟩:=bw;obtain⟨b,hb⟩:=Vz hm;have bz:Db c.loc=some b:=by rw [← bx];exact hb
  have aw:=Li (ay e he) av bz;rcases aw.2 with y | y | ⟨y,a2⟩
  ·exact h.kH i hi b y x a O hb
  ·have:=PO h.low O hb;omega
  ·rcases ap with z | z
   ·exact h.kE i hi b y x a O hb z
   ·rw [a2] at z;cases z
 ·intro op K;rcases Array.mem_append.1 K with K | K
  ·exact MemAct.low_mono Y.size (h.low op K)
  ·obtain⟨_,e,he,aq⟩:=am op K;rw [aq];exact ZK (ay e he)
 ·intro j U b hb x a O ag;by_cases e:j=i
  ·subst e;rw [upd_same] at hb;rcases a0 x a O with K | ⟨a3,_⟩
   ·rcases Y.own b hb with y | y
    ·exact(h.kH j U b y x a K ag).app _
    ·have:=PO h.low K ag;omega
   ·exact a3
  ·rw [upd_ne _ _ e] at hb;rcases a0 x a O with K | ⟨_,ev,he,a4⟩
   ·exact(h.kH j U b hb x a K ag).app _
   ·have aw:=Li (ay ev he) a4 ag;have ac:=h.hh j i U hi e b hb;rcases aw.2 with y | y | ⟨y,_⟩
    ·exact absurd ac.1 y
    ·exact absurd (az j U b y).1 hb
    ·exact absurd ac.2 y
 ·intro j U b hb x a O ag ap;by_cases e:j=i
  ·subst e;rw [upd_same] at hb;rcases a0 x a O with K | ⟨a3,_⟩
   ·rcases Y.Fi b hb with y | y | y
    ·exact(h.kE j U b y x a K ag ap).app _
    ·exact(h.kH j U b y x a K ag).app _
    ·have:=PO h.low K ag;omega
   ·exact a3
  ·rw [upd_ne _ _ e] at hb;rcases a0 x a O with K | ⟨_,ev,he,a4⟩
   ·exact(h.kE j U b hb x a K ag ap).app _
   ·have aw:=Li (ay ev he) a4 ag;rcases aw.2 with y | y | ⟨_,a2⟩
    ·exact absurd ((h.hh i j hi U (Ne.symm e) b y).2) hb
    ·exact absurd (az j U b y).2 hb
    ·rw [a2] at ap;cases ap
theorem Cd.mute{t u:Trace}{w w':World}{N:Nat}{S:Nat->St}{Sh:Nat->Prop}(h:Cd t w N S Sh){g:Nat}(hu:∀op∈u,op.g=g)(Z:∀op∈u,op.act.touch? =none)(al:∀op∈u,op.act.low w'.heap.size)(hw:w'.heap=w.heap):Cd (t++u) w' N S Sh:=by
 have ac:∀x a,touchAt (t++u) x=some a->touchAt t x=some a:=by
  intro x a O;obtain⟨op,K,U⟩:=touch_of O;rcases getElem?_append_cases K with⟨av,am⟩ | ⟨_,ap⟩
  ·rw [touchAt_of am];exact U
  ·rw [Z op ap] at U;cases U
 exact⟨λi hi=>⟨λb o K=>by rw [hw];exact(h.fits i hi).e b o K,λb o K=>by rw [hw];exact(h.fits i hi).h b o K,(h.fits i hi).d⟩,h.hh,h.sh,λb hb=>by rw [hw];exact h.GI b hb,
  λsaid=>noRace_append (g:=g) (h.clean said) hu (λx a _ op K c ag _=>by rw [Z op K] at ag;cases ag),
  λop K=>(Array.mem_append.1 K).elim (λK=>by rw [hw];exact h.low op K) (al op),
  λi hi b hb x a O Y=>(h.kH i hi b hb x a (ac x a O) Y).app _,λi hi b hb x a O Y aq=>(h.kE i hi b hb x a (ac x a O) Y aq).app _⟩
theorem Cd.ghost{t:Trace}{w:World}{N:Nat}{S:Nat->St}{Sh:Nat->Prop}(h:Cd t w N S Sh){i:Nat}(hi:i<N){s₀:St}(hg:CF (S i) s₀):Cd t w N (upd S i s₀) Sh:=by
 have Z:∀b,s₀.H b≠none->(S i).H b≠none:=λb hb=>by obtain⟨o,al⟩:=Im hb;rw [hg.own b o al];simp
 have am:∀b,s₀.E b≠none->(S i).E b≠none∨(S i).H b≠none:=λb hb=>by
  obtain⟨o,al⟩:=Im hb;rcases hg.Fi b o al with x | x
  ·exact .inl (by rw [x];simp)
  ·exact .inr (by rw [x.1];simp)
 have ac:∀{x:Option Obj},¬x≠none->x=none:=λh=>Classical.not_not.1 h;constructor
 ·intro j K;by_cases e:j=i
  ·subst e;rw [upd_same];exact hg.fits (h.fits j K)
  ·rw [upd_ne _ _ e];exact h.fits j K
 ·intro a c ap aq ag b hb;by_cases e:a=i
  ·subst e;rw [upd_same] at hb;rw [upd_ne _ _ (Ne.symm ag)];exact h.hh a c ap aq ag b (Z b hb)
  ·rw [upd_ne _ _ e] at hb;by_cases av:c=i
   ·subst av;rw [upd_same];have O:=h.hh a c ap aq ag b hb;exact⟨ac λx=>Z b x O.1,ac λx=>(am b x).elim (λy=>y O.2) λy=>y O.1⟩
   ·rw [upd_ne _ _ av];exact h.hh a c ap aq ag b hb
 ·intro j K b hb;by_cases e:j=i
  ·subst e;rw [upd_same];have O:=h.sh j K b hb;exact⟨ac λx=>Z b x O.1,ac λx=>(am b x).elim (λy=>y O.2) λy=>y O.1⟩
  ·rw [upd_ne _ _ e];exact h.sh j K b hb
 ·exact h.GI
 ·exact h.clean
 ·exact h.low
 ·intro j K b hb x a U Y;by_cases e:j=i
  ·subst e;rw [upd_same] at hb;exact h.kH j K b (Z b hb) x a U Y
  ·rw [upd_ne _ _ e] at hb;exact h.kH j K b hb x a U Y
 ·intro j K b hb x a U Y aw;by_cases e:j=i
  ·subst e;rw [upd_same] at hb;rcases am b hb with y | y
   ·exact h.kE j K b y x a U Y aw
   ·exact h.kH j K b y x a U Y
  ·rw [upd_ne _ _ e] at hb;exact h.kE j K b hb x a U Y aw
open Go.ConcN (sumTo sumTo_upd)
abbrev St.none:St:=St.quiet
def GM(o o':Os):Prop:=∃d:Nat,o'={o with wall:=o.wall+d,mono:=o.mono+d}
theorem GM.refl(o:Os):GM o o:=⟨0,V⟩
theorem GM.of{o o':Os}(h:o'=o):GM o o':=h▸ .refl o
theorem GM.trans{a b c:Os}(h:GM a b)(k:GM b c):GM a c:=by
 obtain⟨d,rfl⟩:=h;obtain⟨e,rfl⟩:=k;exact⟨d+e,by simp [Nat.add_assoc]⟩
def lone(s:St):Nat->St:=λi=>if i=0 then s else St.none
structure HK (P:Program) (gs:Array Goroutine) (w:World) (t:Trace) (q:Nat->Nat) (Sh:Nat->Prop) (g:Goroutine) (s:St):Prop where
 main:gs[0]? =some g
 lv:Leavers P t gs q
 Cu:Cd t w gs.size (lone s) Sh
 over:t.HandedOver
 hears:Deaf t 0=0
def Reaches(P:Program)(gs:Array Goroutine)(w:World)(sl:Option (Nat×Nat))(t:Trace)(s:St)(K:Gs_):Prop:=
 ∃(n:Nat) (gs':Array Goroutine) (w':World) (U:Option (Nat×Nat)) (O:Trace) (q':Nat->Nat) (Y:Nat->Prop) (g':Goroutine) (s':St),
  runNT P n (crowd gs w sl) t=(.next (crowd gs' w' U),O)/\HK P gs' w' O q' Y g' s'/\K g' s'/\Le' s s'/\w'.tape=w.tape/\GM w.os w'.os/\w'.output=w.output
 where
  Le' (s s' : St) : Prop := ∀ b o, s.E b = some o -> s'.E b = some o
theorem SA{s s':St}:upd (lone s) 0 s'=lone s':=by
 funext i;unfold upd lone;split <;> rfl
theorem Nj{P:Program}{m m':Machine}{t ops:Trace}{k:Nat}{r:Stepped×Trace}(h:stepT P m=(.next m',ops))(K:runNT P k m' (t++ops)=r):runNT P (k+1) m t=r:=by
 simp only [runNT,h];exact K
theorem HK.at_{P:Program}{gs:Array Goroutine}{w:World}{t:Trace}{q:Nat->Nat}{Sh:Nat->Prop}{g:Goroutine}{s:St}(h:HK P gs w t q Sh g s)(d:Nat):HK P gs (w.at d) t q Sh g s:=
 ⟨h.main,h.lv,by
  have:=h.Cu.mute (u:= #[]) (w':=w.at d) (g:=0) (by simp) (by simp) (by simp) rfl
  simpa using this,h.over,h.hears⟩
theorem W6{P:Program}{g:Goroutine}{s:St}{K:Gs_}(a8:TY P true g s K):
  ∀(M:Nat) (gs:Array Goroutine) (w:World) (sl:Option (Nat×Nat)) (t:Trace) (q:Nat->Nat) (Sh:Nat->Prop),sumTo gs.size q<=M->HK P gs w t q Sh g s->Reaches P gs w sl t s K:=by
 intro M
 induction M with
 | zero=>?_
 | succ M bn=>?_
 all_goals
  intro gs w sl t q Sh ce hC;have aw:=a8.1;have bo:∀x∈gs,awake x:=by
   intro x al;obtain⟨i,hi,rfl⟩:=Array.mem_iff_getElem.1 al;rcases Nat.eq_zero_or_pos i with rfl | ay
   ·have:gs[0]=g:=by simpa [Array.getElem?_eq_getElem hi] using hC.main
    rw [this];exact awake_of (.inl aw)
   ·exact awake_of ((hC.lv.old i _ ay (Array.getElem?_eq_getElem hi)).status.elim .inl λx=> .inr (.inr x))
  obtain⟨i,x,d,am,hi,al,a9⟩:=crowd_pick (P:=P) (w:=w) (sl:=sl) bo ⟨0,g,hC.main,aw⟩;have az:=hC.at_ d;have a0:0<gs.size:=(Array.getElem?_eq_some_iff.1 hC.main).1;rcases Nat.eq_zero_or_pos i with rfl | ay
  ·obtain rfl:x=g:=by rw [hC.main] at hi;exact(Option.some.inj hi).symm
   have bv:Fits s (w.at d):=az.Cu.fits 0 a0;obtain⟨g',s',w',es,a1,a2,a3,Z,ap⟩:=a8.2.1 (w.at d) bv;have a4:=runT_crowd_go (P:=P) (sl:=am) (i:=0) hi (show stepG P (0==0) x (w.at d)=_ from a1);have aq:((gs.map (woken P x g' w')).setIfInBounds 0 g').size=gs.size:=by simp
   have Y:∀op∈MemOp.ofEvents 0 x.frame.fn x.frame.place es,op.g=0:=λop O=>by obtain⟨e,_,rfl⟩:=mem_ofEvents O;rfl
   have bw:deafBehind (Deaf t 0) es=Deaf t 0:=deafBehind_still (λe he=>by
    have:=ap e he
    unfold Ev at this
    constructor <;> intro bx <;> rw [bx] at this <;> exact this) _
   refine⟨1,_,w',am,t++MemOp.ofEvents 0 x.frame.fn x.frame.place es,q,Sh,g',s',Nj (a9.trans a4) V,⟨by simp [a0],⟨λj y U ac=>?_,λj U=>?_⟩,?_,?_,?_⟩,a2,Z.ext,Z.tape,.of Z.os,Z.output⟩
   ·have a5:0≠j:=by omega
    rw [Array.getElem?_setIfInBounds_ne a5,Array.getElem?_map] at ac;obtain⟨z,a6,rfl⟩:=Option.map_eq_some_iff.1 ac;have ag:=hC.lv.old j z U a6;rw [woken_quitsD ag,Deaf_other t (by omega) _ Y];exact ag
   ·rw [Deaf_other t (g':=0) (by simp at U;omega) _ Y];exact hC.lv.above j (by simpa using U)
   ·rw [aq,← SA (s:=s)];exact az.Cu.own a0 a3 (by simpa [lone] using Z) (by simpa [lone] using ap)
   ·exact handedOver_app hC.over λop O=> .inl (Y op O)
   ·rw [Deaf_own,bw];exact hC.hears
  ·
   have ag:=hC.lv.old i x ay hi;have bz:(i==0)=false:=by simp;omega
   have bb:i<gs.size:=(Array.getElem?_eq_some_iff.1 hi).1;cases a7:q i with
   | zero=>rw [a7] at ag;rw [ag.1] at al;cases al
   | succ k=>
    rw [a7] at ag;rcases ag with⟨b0,_⟩ | ⟨_,x',es,hm,b1,b2⟩
    ·rw [b0] at al;cases al
    have ci:sumTo gs.size (upd q i k)+(k+1)=sumTo gs.size q+k:=by
     have:=sumTo_upd q k id bb;simpa [a7] using this
    first
     | (exfalso;omega)
     | (
      have a4:=runT_crowd_go (P:=P) (sl:=am) (i:=i) hi (by rw [bz];exact b1 (w.at d))
      have aq:((gs.map (woken P x x' (w.at d))).setIfInBounds i x').size=gs.size:=by simp
      have Y:∀op∈MemOp.ofEvents i x.frame.fn x.frame.place es,op.g=i:=λop O=>by obtain⟨e,_,rfl⟩:=mem_ofEvents O;rfl
      have be:∀op∈MemOp.ofEvents i x.frame.fn x.frame.place es,op.act.touch? =none:=λop O=>by obtain⟨e,he,rfl⟩:=mem_ofEvents O;exact touch_mute (hm e he)
      have b3:HK P ((gs.map (woken P x x' (w.at d))).setIfInBounds i x') (w.at d) (t++MemOp.ofEvents i x.frame.fn x.frame.place es) (upd q i k) Sh g s:=by
       refine⟨?_,⟨λj y U ac=>?_,λj U=>?_⟩,?_,?_,?_⟩
       ·have a5:i≠0:=by omega
        rw [Array.getElem?_setIfInBounds_ne a5,Array.getElem?_map,hC.main]
        simp [woken_run aw]
       ·by_cases av:i=j
        ·subst av
         rw [Array.getElem?_setIfInBounds_self_of_lt (by simpa using bb)] at ac
         obtain rfl:=Option.some.inj ac
         rw [upd_same,Deaf_own]
         exact b2
        ·rw [Array.getElem?_setIfInBounds_ne av,Array.getElem?_map] at ac
         obtain⟨z,a6,rfl⟩:=Option.map_eq_some_iff.1 ac
         have bi:=hC.lv.old j z U a6
         rw [woken_quitsD bi,upd_ne q k (Ne.symm av),Deaf_other t av _ Y]
         exact bi
       ·rw [Deaf_other t (g':=i) (by simp at U;omega) _ Y]
        exact hC.lv.above j (by simpa using U)
       ·rw [aq]
        exact az.Cu.mute Y be (λop O=>by obtain⟨e,he,rfl⟩:=mem_ofEvents O;exact low_mute (hm e he) _) V
       ·exact handedOver_app hC.over λop O=> .inr (be op O)
       ·rw [Deaf_other t (by omega) _ Y];exact hC.hears
      obtain⟨n,gs',w',b4,b5,q',b6,g',s',a1,a2,a3,Z,ap,ca,cc⟩:=bn _ (w.at d) am _ _ Sh (by rw [aq];omega) b3
      exact⟨n+1,gs',w',b4,b5,q',b6,g',s',Nj (a9.trans a4) a1,a2,a3,Z,ap,ca,cc⟩)
def Hd(P:Program):Judge P where
 main:=true
 ok Q g s:=∀gs w sl t q Sh,HK P gs w t q Sh g s->Reaches P gs w sl t s Q
 stop {Q g s} h:=λgs w sl t q Sh hC=>⟨0,gs,w,sl,t,q,Sh,g,s,rfl,hC,h,λ_ _ h=>h,rfl,.refl _,rfl⟩
 step {Q g s} h:=λgs w sl t q Sh hC=>by
  obtain⟨n,gs',w',K,O,q',U,g',s',Y,Z,ac,ag,al,am,ap⟩:=W6 h _ gs w sl t q Sh (Nat.le_refl _) hC
  obtain⟨aq,av,aw,ay,az,a0,a1,a2,a3,k1,a4,a5,a6,a7,a8,a9⟩:=ac gs' w' K O q' U Z
  refine⟨n+aq,av,aw,ay,az,a0,a1,a2,a3,?_,a4,a5,λb o h=>a6 b o (ag b o h),a7.trans al,am.trans a8,a9.trans ap⟩
  rw [runNT_add,Y];exact k1
 trans {Q R g s} h k:=λgs w sl t q Sh hC=>by
  obtain⟨n,gs',w',K,O,q',U,g',s',Y,Z,ac,ag,al,am,ap⟩:=h gs w sl t q Sh hC
  obtain⟨aq,av,aw,ay,az,a0,a1,a2,a3,k1,a4,a5,a6,a7,a8,a9⟩:=k g' s' ac gs' w' K O q' U Z
  refine⟨n+aq,av,aw,ay,az,a0,a1,a2,a3,?_,a4,a5,λb o h=>a6 b o (ag b o h),a7.trans al,am.trans a8,a9.trans ap⟩
  rw [runNT_add,Y];exact k1
 ghost {Q g s s₀} hg h:=λgs w sl t q Sh hC=>by
  have bb:0<gs.size:=(Array.getElem?_eq_some_iff.1 hC.main).1
  have be:HK P gs w t q Sh g s₀:=⟨hC.main,hC.lv,by
   rw [← SA (s:=s)];exact hC.Cu.ghost bb (by simpa [lone] using hg),hC.over,hC.hears⟩
  obtain⟨n,gs',w',K,O,q',U,g',s',Y,Z,ac,ag,al,am,ap⟩:=h gs w sl t q Sh be
  exact⟨n,gs',w',K,O,q',U,g',s',Y,Z,ac,λb o h=>ag b o (hg.ext b o h),al,am,ap⟩
end Pal
