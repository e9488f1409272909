/- DebtKept states that all nets together are 0: a part (1 of 9) of the proof of its row. -/
import Derived.Conc.Own5
import Derived.Conc.Listed
import Derived.Conc.DeferLaws
import Derived.Orders
import Derived.Conc.Beside
set_option linter.all false
set_option maxRecDepth 100000
namespace Pal
open Go Go.Conc
theorem V{α:Sort _}{a:α}:a=a:=rfl
abbrev LH:=Nat->Option Obj
structure St where
 E:LH
 H:LH
 q:Bool
abbrev Ld_:=List Deferred
abbrev Ao_:=Array Oper
abbrev Li_:=List Item
abbrev Lf_:=List Frame
abbrev On_:=Option (Nat×Bool)
abbrev Ae_:=Array Edge
abbrev Gs_:=Goroutine->St->Prop
abbrev Lv_:=List Value
abbrev Av_:=Array Value
def St.get(s:St)(b:Nat):Option Obj:=match s.E b with | some o=>some o | none=>s.H b
structure Fits (s:St) (w:World):Prop where
 e:∀b o,s.E b=some o->w.heap[b]? =some o
 h:∀b o,s.H b=some o->w.heap[b]? =some o
 d:∀b,s.E b≠none->s.H b=none
theorem Fits.get{s:St}{w:World}(f:Fits s w){b:Nat}{o:Obj}(h:s.get b=some o):w.heap[b]? =some o:=by
 unfold St.get at h;split at h
 ·rename_i o' K;cases h;exact f.e _ _ K
 ·exact f.h _ _ h
theorem Fits.Uq{s:St}{w:World}(f:Fits s w){b:Nat}{o:Obj}(h:s.H b=some o):b<w.heap.size:=by
 have:=f.h _ _ h;rcases Nat.lt_or_ge b w.heap.size with K | K
 ·exact K
 ·simp [Array.getElem?_eq_none K] at this
theorem Fits.lt{s:St}{w:World}(f:Fits s w){b:Nat}{o:Obj}(h:s.get b=some o):b<w.heap.size:=by
 have:=f.get h;rcases Nat.lt_or_ge b w.heap.size with K | K
 ·exact K
 ·simp [Array.getElem?_eq_none K] at this
def cellAt(o:Obj)(a:Addr):Option Value:=match o with | .cells c _ _=>if a.spot.isSome then none else c[a.off]? | _=>none
def frozenAt(o:Obj)(a:Addr):Bool:=match o with | .cells _ _ (lo,hi)=>lo<=a.off&&a.off<hi | _=>false
def shapeOf(o:Obj):Option (TypeId×Nat):=match o with | .cells c e _=>some (e,c.size) | _=>none
def CJ:Value->Bool | .agg _ | .tuple _=>false | _=>true
def Kn(o:Obj)(a:Addr)(v:Value):Obj:=match o with | .cells c e f=> .cells (if a.spot.isSome then c else c.setIfInBounds a.off v) e f | o=>o
def JC(o:Obj):Bool:=match o with | .cells ..=>false | .chan ..=>false | .pending ..=>false | .view ..=>false | .number ..=>false | _=>true
def St.cell? (s:St)(a:Addr):Option Value:=(s.get a.block).bind (cellAt · a)
def St.upd(s:St)(b:Nat)(o:Obj):St:={s with H:=λx=>if x=b then some o else s.H x}
theorem QJ{w:World}{a:Addr}{o:Obj}(h:w.heap[a.block]? =some o):w.cell? a=cellAt o a:=by
 unfold World.cell? cellAt;rw [h];cases o <;> rfl
theorem Qq{w:World}{a:Addr}{o:Obj}(h:w.heap[a.block]? =some o):w.frozen? a=frozenAt o a:=by
 unfold World.frozen? frozenAt;rw [h];cases o <;> rfl
theorem U5{w:World}{b:Nat}{o:Obj}(h:w.heap[b]? =some o):w.shape? b=shapeOf o:=by
 unfold World.shape? shapeOf;rw [h];cases o <;> rfl
def lp(P:Program){α:Type}:Sem α->St->(α->St->Prop)->(Halt->St->Prop)->Prop
 | .pure a,s,Q,_=>Q a s
 | .load m a k,s,Q,X=>m= .plain/\∃v,s.cell? a=some v/\lp P (k v) s Q X
 | .store m a v k,s,Q,X=>m= .plain/\CJ v=true/\∃o,s.H a.block=some o/\(cellAt o a).isSome=true/\frozenAt o a=false/\lp P k (s.upd a.block (Kn o a v)) Q X
 | .new o k,s,Q,X=>s.q=false/\∀r,s.E r=none->s.H r=none->lp P (k r) (s.upd r o) Q X
 | .shape r k,s,Q,X=>∃o,s.get r=some o/\lp P (k (shapeOf o)) s Q X
 | .freeze _ _ _,_,_,_=>False
 | .frozen a k,s,Q,X=>∃o,s.get a.block=some o/\lp P (k (frozenAt o a)) s Q X
 | .getObj r k,s,Q,X=>∃o,s.get r=some o/\JC o=true/\lp P (k o) s Q X
 | .setObj r o k,s,Q,X=>(∃o₀,s.H r=some o₀/\JC o₀=true)/\JC o=true/\lp P k (s.upd r o) Q X
 | .choose q k,s,Q,X=>if q.forced then lp P (k 0) s Q X else s.q=false/\∀t,lp P (k (q.cut t)) s Q X
 | .sys _ _,_,_,_=>False
 | .program k,s,Q,X=>lp P (k P) s Q X
 | .mark m k,s,Q,X=>((s.q=false/\m= .noRoom)∨∃f,m= .extern f)/\lp P k s Q X
 | .halt h,s,_,X=>X h s
theorem DG{P:Program}{α:Type}(x:Sem α):∀{s:St} {Q Y:α->St->Prop} {X Z:Halt->St->Prop},lp P x s Q X->(∀a s,Q a s->Y a s)->(∀h s,X h s->Z h s)->lp P x s Y Z:=by
 induction x with
 | pure a=>intro s Q Y X Z h K O;exact K _ _ h
 | load m a k U=>intro s Q Y X Z h K O;obtain⟨ac,v,ag,al⟩:=h;exact⟨ac,v,ag,U _ al K O⟩
 | store m a v k U=>intro s Q Y X Z h K O;obtain⟨ac,ag,o,al,ap,aq,aw⟩:=h;exact⟨ac,ag,o,al,ap,aq,U aw K O⟩
 | new o k U=>intro s Q Y X Z h K O;exact⟨h.1,λr ac ag=>U _ (h.2 r ac ag) K O⟩
 | shape r k U=>intro s Q Y X Z h K O;obtain⟨o,ac,ag⟩:=h;exact⟨o,ac,U _ ag K O⟩
 | freeze a n k U=>intro s Q Y X Z h K O;exact h
 | frozen a k U=>intro s Q Y X Z h K O;obtain⟨o,ac,ag⟩:=h;exact⟨o,ac,U _ ag K O⟩
 | getObj r k U=>intro s Q Y X Z h K O;obtain⟨o,ac,ag,al⟩:=h;exact⟨o,ac,ag,U _ al K O⟩
 | setObj r o k U=>intro s Q Y X Z h K O;obtain⟨ac,ag,al⟩:=h;exact⟨ac,ag,U al K O⟩
 | choose q k U=>
  intro s Q Y X Z h K O;simp only [lp] at h ⊢;split
  ·rename_i am;rw [if_pos am] at h;exact U _ h K O
  ·rename_i am;rw [if_neg am] at h;exact⟨h.1,λt=>U _ (h.2 t) K O⟩
 | sys c k U=>intro s Q Y X Z h K O;exact h
 | program k U=>intro s Q Y X Z h K O;exact U _ h K O
 | mark m k U=>intro s Q Y X Z h K O;exact⟨h.1,U h.2 K O⟩
 | halt h=>intro s Q Y X Z h K O;exact O _ _ h
theorem As{P:Program}{α β:Type}(x:Sem α)(f:α->Sem β):∀{s:St} {Q:β->St->Prop} {X:Halt->St->Prop},lp P x s (λa s'=>lp P (f a) s' Q X) X->lp P (x>>=f) s Q X:=by
 show ∀{s:St} {Q:β->St->Prop} {X:Halt->St->Prop},lp P x s (λa s'=>lp P (f a) s' Q X) X->lp P (Sem.bind x f) s Q X
 induction x with
 | pure a=>intro s Q X h;exact h
 | load m a k K=>intro s Q X h;obtain⟨O,v,U,Y⟩:=h;exact⟨O,v,U,K _ Y⟩
 | store m a v k K=>intro s Q X h;obtain⟨O,U,o,Y,ac,ag,al⟩:=h;exact⟨O,U,o,Y,ac,ag,K al⟩
 | new o k K=>intro s Q X h;exact⟨h.1,λr O U=>K _ (h.2 r O U)⟩
 | shape r k K=>intro s Q X h;obtain⟨o,O,U⟩:=h;exact⟨o,O,K _ U⟩
 | freeze a n k K=>intro s Q X h;exact h
 | frozen a k K=>intro s Q X h;obtain⟨o,O,U⟩:=h;exact⟨o,O,K _ U⟩
 | getObj r k K=>intro s Q X h;obtain⟨o,O,U,Y⟩:=h;exact⟨o,O,U,K _ Y⟩
 | setObj r o k K=>intro s Q X h;obtain⟨O,U,Y⟩:=h;exact⟨O,U,K Y⟩
 | choose q k K=>
  intro s Q X h;simp only [lp,Sem.bind] at h ⊢;split
  ·rename_i Z;rw [if_pos Z] at h;exact K _ h
  ·rename_i Z;rw [if_neg Z] at h;exact⟨h.1,λt=>K _ (h.2 t)⟩
 | sys c k K=>intro s Q X h;exact h
 | program k K=>intro s Q X h;exact K _ h
 | mark m k K=>intro s Q X h;exact⟨h.1,K h.2⟩
 | halt h=>intro s Q X h;exact h
structure Fr (s:St) (w:World) (s':St) (w':World):Prop where
 size:w.heap.size<=w'.heap.size
 keep:∀b,b<w.heap.size->s.H b=none->w'.heap[b]? =w.heap[b]?
 own:∀b,s'.H b≠none->s.H b≠none∨w.heap.size<=b
 ext:∀b o,s.E b=some o->s'.E b=some o
 EG:∀b,s'.E b≠none->s.E b≠none∨s.H b≠none∨w.heap.size<=b
 tape:w'.tape=w.tape
 os:w'.os=w.os
 output:w'.output=w.output
theorem Fr.refl(s:St)(w:World):Fr s w s w:=
 ⟨Nat.le_refl _,λ_ _ _=>V,λ_ h=> .inl h,λ_ _ h=>h,λ_ h=> .inl h,V,V,V⟩
theorem Fr.trans{s K O:St}{w U Y:World}(h:Fr s w K U)(k:Fr K U O Y):Fr s w O Y where
 size:=Nat.le_trans h.size k.size
 keep b hb Z:=by
  rw [k.keep b (Nat.lt_of_lt_of_le hb h.size) ?_,h.keep b hb Z];by_cases ac:K.H b=none
  ·exact ac
  ·rcases h.own b ac with x | x
   ·exact absurd Z x
   ·omega
 own b hb:=by
  rcases k.own b hb with x | x
  ·exact h.own b x
  ·exact .inr (Nat.le_trans h.size x)
 ext b o ag:=k.ext b o (h.ext b o ag)
 EG b hb:=by
  rcases k.EG b hb with x | x | x
  ·exact h.EG b x
  ·rcases h.own b x with y | y
   ·exact .inr (.inl y)
   ·exact .inr (.inr y)
  ·exact .inr (.inr (Nat.le_trans h.size x))
 tape:=k.tape.trans h.tape
 os:=k.os.trans h.os
 output:=k.output.trans h.output
def GN(s:St)(w w':World)(b:Nat)(write:Bool):Prop:=
 b<w'.heap.size/\(s.H b≠none∨w.heap.size<=b∨(s.E b≠none/\write=false))
def Ev(s:St)(w w':World)(e:Event):Prop:=
 match e.loc with
 | .cell a=>e.sync=false/\GN s w w' a.block e.write
 | .obj r=>e.sync=false/\GN s w w' r e.write
 | .mark (.extern _)=>True
 | .mark .noRoom=>True
 | _=>False
theorem GN.Ah{s K:St}{w O w' U:World}{b:Nat}{wr:Bool}(h:Fr s w K O)(Y:w'.heap.size<=U.heap.size)(t:GN K O w' b wr):GN s w U b wr:=by
 refine⟨Nat.lt_of_lt_of_le t.1 Y,?_⟩;rcases t.2 with x | x | ⟨x,y⟩
 ·rcases h.own b x with z | z
  ·exact .inl z
  ·exact .inr (.inl z)
 ·exact .inr (.inl (Nat.le_trans h.size x))
 ·rcases h.EG b x with z | z | z
  ·exact .inr (.inr ⟨z,y⟩)
  ·exact .inl z
  ·exact .inr (.inl z)
theorem Ev.Ah{s K:St}{w O w' U:World}{e:Event}(h:Fr s w K O)(Y:w'.heap.size<=U.heap.size)(t:Ev K O w' e):Ev s w U e:=by
 unfold Ev at t ⊢;split <;> rename_i he <;> simp only [he] at t
 ·exact⟨t.1,t.2.Ah h Y⟩
 ·exact⟨t.1,t.2.Ah h Y⟩
 ·trivial
 ·trivial
def Kz{α:Type}:Result α->World | .ok _ w=>w | .halt _ w=>w
def ZG{α:Type}(Q:α->St->Prop)(X:Halt->St->Prop)(s:St):Result α->Prop | .ok a _=>Q a s | .halt h _=>X h s
theorem Rs{s:St}{b:Nat}{o:Obj}(h:s.get b=some o)(K:s.H b=none):s.E b≠none:=by
 intro e;unfold St.get at h;rw [e] at h;simp only at h;rw [K] at h;cases h
theorem OU{s:St}{w w':World}{b:Nat}{o:Obj}(f:Fits s w)(U:s.E b=none)(hb:w'.heap[b]? =some o)(Y:∀c,c≠b->∀x,w.heap[c]? =some x->w'.heap[c]? =some x):Fits (s.upd b o) w' where
 e c x K:=by
  have O:c≠b:=λe=>by subst e;simp [St.upd] at K;rw [U] at K;cases K
  exact Y c O x (f.e c x K)
 h c x K:=by
  simp only [St.upd] at K;split at K
  ·rename_i e;subst e;cases K;exact hb
  ·rename_i O;exact Y c O x (f.h c x K)
 d c K:=by
  have O:c≠b:=λe=>by subst e;exact K U
  simp only [St.upd,if_neg O];exact f.d c K
theorem M3{P:Program}{α:Type}(x:Sem α):∀{s:St} {w:World} {Q:α->St->Prop} {X:Halt->St->Prop},lp P x s Q X->Fits s w->
  ∃s',Fits s' (Kz (x.run P w))/\Fr s w s' (Kz (x.run P w))/\(∀e∈x.events P w #[],Ev s w (Kz (x.run P w)) e)/\ZG Q X s' (x.run P w):=by
 induction x with
 | pure a=>intro s w Q X h f;exact⟨s,f,.refl _ _,by simp [Sem.events_pure'],h⟩
 | load m a k O=>
  intro s w Q X h f;obtain⟨rfl,v,a7,h⟩:=h;obtain⟨o,K,b1⟩:=Option.bind_eq_some_iff.1 a7;have hw:=f.get K;have a8:w.cell? a=some v:=by rw [QJ hw,b1]
  have U:(Sem.load Mode.plain a k).run P w=(k v).run P w:=by simp [Sem.run,a8]
  have Y:(Sem.load Mode.plain a k).events P w #[]= #[⟨.cell a,false,false⟩]++(k v).events P w #[]:=by
   rw [← Sem.events_acc];simp only [Sem.events,Sem.runT,a8];rfl
  rw [U,Y];obtain⟨s',ac,Z,ag,al⟩:=O v h f;refine⟨s',ac,Z,λe he=>?_,al⟩;rcases Array.mem_append.1 he with he | he
  ·simp at he;subst he;refine⟨V,Nat.lt_of_lt_of_le (f.lt K) Z.size,?_⟩;by_cases a2:s.H a.block=none
   ·refine .inr (.inr ⟨?_,V⟩);exact Rs K a2
   ·exact .inl a2
  ·exact ag e he
 | store m a v k O=>
  intro s w Q X h f;obtain⟨rfl,a7,o,K,a8,b2,h⟩:=h;have hw:=f.h _ _ K;obtain⟨u,hu⟩:=Option.isSome_iff_exists.1 a8;have bo:w.cell? a=some u:=by rw [QJ hw,hu]
  have bv:w.frozen? a=false:=by rw [Qq hw,b2]
  have a9:=f.Uq K;obtain⟨be,bi,f0,rfl⟩:∃c e f,o= .cells c e f:=by cases o <;> simp [cellAt] at hu;exact⟨_,_,_,V⟩
  have b3:(w.setCell a v).heap[a.block]? =some (Kn (.cells be bi f0) a v):=by
   simp [World.setCell,Kn,Array.getElem?_modify,hw]
  have a3:∀c,c≠a.block->(w.setCell a v).heap[c]? =w.heap[c]? :=by
   intro c aq;simp [World.setCell,Array.getElem?_modify,Ne.symm aq]
  have ap:s.E a.block=none:=by
   cases ap:s.E a.block with
   | none=>rfl
   | some x=>have:=f.d a.block (by rw [ap];simp);rw [K] at this;cases this
  have a4:Fits (s.upd a.block (Kn (.cells be bi f0) a v)) (w.setCell a v):=OU f ap b3 (λc aq x aw=>by rw [a3 c aq];exact aw);have U:(Sem.store Mode.plain a v k).run P w=k.run P (w.setCell a v):=by
   cases v <;> first | (simp [CJ] at a7;done) | simp [Sem.run,bo,bv]
  have Y:(Sem.store Mode.plain a v k).events P w #[]= #[⟨.cell a,true,false⟩]++k.events P (w.setCell a v) #[]:=by
   rw [← Sem.events_acc];cases v <;> first | (simp [CJ] at a7;done) | (simp only [Sem.events,Sem.runT,bo,bv];rfl)
  have am:Fr s w (s.upd a.block (Kn (.cells be bi f0) a v)) (w.setCell a v):=by
   refine⟨by simp [World.setCell],λb hb a0=>a3 b (λe=>by subst e;rw [K] at a0;cases a0),λb hb=>?_,λ_ _ h=>h,λ_ h=> .inl h,V,V,V⟩;simp only [St.upd] at hb;split at hb
   ·rename_i e;subst e;exact .inl (by rw [K];simp)
   ·exact .inl hb
  rw [U,Y];obtain⟨s',ac,Z,ag,al⟩:=O h a4;refine⟨s',ac,am.trans Z,λe he=>?_,al⟩;rcases Array.mem_append.1 he with he | he
  ·simp at he;subst he;exact⟨V,Nat.lt_of_lt_of_le a9 (am.trans Z).size,.inl (by rw [K];simp)⟩
  ·exact(ag e he).Ah am (Nat.le_refl _)
 | new o k O=>
  intro s w Q X h f;have bw:s.E w.heap.size=none:=by
   cases ap:s.E w.heap.size with
   | none=>rfl
   | some x=>have:=f.e _ _ ap;simp at this
  have b4:s.H w.heap.size=none:=by
   cases ap:s.H w.heap.size with
   | none=>rfl
   | some x=>have:=f.h _ _ ap;simp at this
  have U:(Sem.new o k).run P w=(k w.heap.size).run P {w with heap:=w.heap.push o}:=by simp [Sem.run]
  have Y:(Sem.new o k).events P w #[]=(k w.heap.size).events P {w with heap:=w.heap.push o} #[]:=by simp only [Sem.events,Sem.runT]
  rw [U,Y];have a4:Fits (s.upd w.heap.size o) {w with heap:=w.heap.push o}:=OU f bw (by simp) (λc aq x aw=>by
   have:c<w.heap.size:=by
    rcases Nat.lt_or_ge c w.heap.size with a5 | a5
    ·exact a5
    ·simp [Array.getElem?_eq_none a5] at aw
   simp [Array.getElem?_push,Nat.ne_of_lt this,aw])
  have am:Fr s w (s.upd w.heap.size o) {w with heap:=w.heap.push o}:=by
   refine⟨by simp,λb hb a0=>by simp [Array.getElem?_push,Nat.ne_of_lt hb],λb hb=>?_,λ_ _ h=>h,λ_ h=> .inl h,V,V,V⟩;simp only [St.upd] at hb;split at hb
   ·rename_i e;subst e;exact .inr (Nat.le_refl _)
   ·exact .inl hb
  obtain⟨s',ac,Z,ag,al⟩:=O _ (h.2 _ bw b4) a4;exact⟨s',ac,am.trans Z,λe he=>(ag e he).Ah am (Nat.le_refl _),al⟩
 | shape r k O=>
  intro s w Q X h f;obtain⟨o,K,h⟩:=h;have a6:=U5 (f.get K);have U:(Sem.shape r k).run P w=(k (shapeOf o)).run P w:=by simp [Sem.run,a6]
  have Y:(Sem.shape r k).events P w #[]=(k (shapeOf o)).events P w #[]:=by simp only [Sem.events,Sem.runT,a6]
  rw [U,Y];exact O _ h f
 | freeze a n k O=>intro s w Q X h f;exact h.elim
 | frozen a k O=>
  intro s w Q X h f;obtain⟨o,K,h⟩:=h;have a6:=Qq (a:=a) (f.get K);have U:(Sem.frozen a k).run P w=(k (frozenAt o a)).run P w:=by simp [Sem.run,a6]
  have Y:(Sem.frozen a k).events P w #[]=(k (frozenAt o a)).events P w #[]:=by simp only [Sem.events,Sem.runT,a6]
  rw [U,Y];exact O _ h f
 | getObj r k O=>
  intro s w Q X h f;obtain⟨o,K,bb,h⟩:=h;have hw:=f.get K;have U:(Sem.getObj r k).run P w=(k o).run P w:=by cases o <;> simp [JC] at bb <;> simp [Sem.run,hw]
  have Y:(Sem.getObj r k).events P w #[]= #[⟨.obj r,false,false⟩]++(k o).events P w #[]:=by
   rw [← Sem.events_acc];cases o <;> simp [JC] at bb <;> (simp only [Sem.events,Sem.runT,hw,Obj.isChan];rfl)
  rw [U,Y];obtain⟨s',ac,Z,ag,al⟩:=O o h f;refine⟨s',ac,Z,λe he=>?_,al⟩;rcases Array.mem_append.1 he with he | he
  ·simp at he;subst he;refine⟨V,Nat.lt_of_lt_of_le (f.lt K) Z.size,?_⟩;by_cases a2:s.H r=none
   ·refine .inr (.inr ⟨?_,V⟩);exact Rs K a2
   ·exact .inl a2
  ·exact ag e he
 | setObj r o k O=>
  intro s w Q X h f;obtain⟨⟨o₀,K,b0⟩,bb,h⟩:=h;have hw:=f.h _ _ K;have a9:=f.Uq K;have ap:s.E r=none:=by
   cases ap:s.E r with
   | none=>rfl
   | some x=>have:=f.d r (by rw [ap];simp);rw [K] at this;cases this
  have U:(Sem.setObj r o k).run P w=k.run P {w with heap:=w.heap.setIfInBounds r o}:=by
   cases o₀ <;> simp [JC] at b0 <;> simp [Sem.run,hw]
  have Y:(Sem.setObj r o k).events P w #[]= #[⟨.obj r,true,false⟩]++k.events P {w with heap:=w.heap.setIfInBounds r o} #[]:=by
   rw [← Sem.events_acc];cases o₀ <;> simp [JC] at b0 <;> cases o <;> simp [JC] at bb <;> (simp only [Sem.events,Sem.runT,hw,Obj.isChan];rfl)
  have a3:∀c,c≠r->(w.heap.setIfInBounds r o)[c]? =w.heap[c]? :=λc aq=>by simp [Ne.symm aq]
  have a4:Fits (s.upd r o) {w with heap:=w.heap.setIfInBounds r o}:=OU f ap (by simp [a9]) (λc aq x aw=>by show(w.heap.setIfInBounds r o)[c]? =_;rw [a3 c aq];exact aw);have am:Fr s w (s.upd r o) {w with heap:=w.heap.setIfInBounds r o}:=by
   refine⟨by simp,λb hb a0=>a3 b (λe=>by subst e;rw [K] at a0;cases a0),λb hb=>?_,λ_ _ h=>h,λ_ h=> .inl h,V,V,V⟩;simp only [St.upd] at hb;split at hb
   ·rename_i e;subst e;exact .inl (by rw [K];simp)
   ·exact .inl hb
  rw [U,Y];obtain⟨s',ac,Z,ag,al⟩:=O h a4;refine⟨s',ac,am.trans Z,λe he=>?_,al⟩;rcases Array.mem_append.1 he with he | he
  ·simp at he;subst he;exact⟨V,Nat.lt_of_lt_of_le a9 (am.trans Z).size,.inl (by rw [K];simp)⟩
  ·exact(ag e he).Ah am (Nat.le_refl _)
 | choose q k O=>
  intro s w Q X h f;simp only [lp] at h;by_cases a1:q.forced
  ·rw [if_pos a1] at h;have U:(Sem.choose q k).run P w=(k 0).run P w:=by simp [Sem.run,a1]
   have Y:(Sem.choose q k).events P w #[]=(k 0).events P w #[]:=by simp only [Sem.events,Sem.runT];rw [if_pos a1]
   rw [U,Y];exact O _ h f
  ·rw [if_neg a1] at h;have U:(Sem.choose q k).run P w=(k (q.cut (w.tape w.drawn q))).run P {w with drawn:=w.drawn+1}:=by simp [Sem.run,a1]
   have Y:(Sem.choose q k).events P w #[]=(k (q.cut (w.tape w.drawn q))).events P {w with drawn:=w.drawn+1} #[]:=by simp only [Sem.events,Sem.runT];rw [if_neg a1]
   rw [U,Y];have am:Fr s w s {w with drawn:=w.drawn+1}:=⟨Nat.le_refl _,λ_ _ _=>rfl,λ_ h=> .inl h,λ_ _ h=>h,λ_ h=> .inl h,rfl,rfl,rfl⟩;obtain⟨s',ac,Z,ag,al⟩:=O _ (h.2 (w.tape w.drawn q)) (⟨f.e,f.h,f.d⟩:Fits s {w with drawn:=w.drawn+1});exact⟨s',ac,am.trans Z,λe he=>(ag e he).Ah am (Nat.le_refl _),al⟩
 | sys c k O=>intro s w Q X h f;exact h.elim
 | program k O=>
  intro s w Q X h f;have U:(Sem.program k).run P w=(k P).run P w:=by simp [Sem.run]
  have Y:(Sem.program k).events P w #[]=(k P).events P w #[]:=by simp only [Sem.events,Sem.runT]
  rw [U,Y];exact O _ h f
 | mark m k O=>
  intro s w Q X h f;have U:(Sem.mark m k).run P w=k.run P w:=by simp [Sem.run]
  have Y:(Sem.mark m k).events P w #[]= #[⟨.mark m,false,true⟩]++k.events P w #[]:=by
   rw [← Sem.events_acc];simp only [Sem.events,Sem.runT];rfl
  rw [U,Y];obtain⟨hm,h⟩:=h;obtain⟨s',ac,Z,ag,al⟩:=O h f;refine⟨s',ac,Z,λe he=>?_,al⟩;rcases Array.mem_append.1 he with he | he
  ·simp at he;subst he;rcases hm with⟨_,rfl⟩ | ⟨g,rfl⟩ <;> trivial
  ·exact ag e he
 | halt h=>intro s w Q X a5 f;exact⟨s,f,.refl _ _,by simp [Sem.events_halt],a5⟩
theorem Qt{P:Program}{fn:FuncId}{es:Array Event}(h:∀e∈es,∃f,e.loc= .mark (.extern f)):seen P fn es= #[]:=by
 rw [seen_def];have:∀(l:List Event) (q:Bool),(∀e∈l,∃f,e.loc= .mark (.extern f))->(l.foldl (seenStep λf=>(P.funcs[f]?).any (·.norace)) (q,#[])).2= #[]:=by
  intro l
  induction l with
  | nil=>intro q _;rfl
  | cons e l K=>
   intro q h;obtain⟨f,O⟩:=h e (by simp);rw [List.foldl_cons];have:seenStep (λf=>(P.funcs[f]?).any (·.norace)) (q,#[]) e=((P.funcs[f]?).any (·.norace),#[]):=by simp [seenStep,O]
   rw [this];exact K _ λx U=>h x (by simp [U])
 exact this es.toList _ λe he=>h e (Array.mem_toList_iff.1 he)
def St.quiet:St:=⟨λ_=>none,λ_=>none,true⟩
theorem RH{P:Program}{α:Type}(x:Sem α):∀{Q:α->St->Prop} {X:Halt->St->Prop},lp P x .quiet Q X->
  ∃es,(∀w,x.events P w #[]=es)/\(∀e∈es,∃f,e.loc= .mark (.extern f))/\((∃a,Q a .quiet/\(∀w,x.run P w= .ok a w))∨(∃a,X a .quiet/\(∀w,x.run P w= .halt a w))):=by
 induction x with
 | pure a=>intro Q X h;exact⟨#[],λw=>by simp [Sem.events_pure'],by simp,.inl ⟨a,h,λw=>rfl⟩⟩
 | load m a k K=>intro Q X h;obtain⟨_,v,Z,_⟩:=h;simp [St.cell?,St.get,St.quiet] at Z
 | store m a v k K=>intro Q X h;obtain⟨_,_,o,ac,_⟩:=h;cases ac
 | new o k K=>intro Q X h;cases h.1
 | shape r k K=>intro Q X h;obtain⟨o,O,_⟩:=h;simp [St.get,St.quiet] at O
 | freeze a n k K=>intro Q X h;exact h.elim
 | frozen a k K=>intro Q X h;obtain⟨o,O,_⟩:=h;simp [St.get,St.quiet] at O
 | getObj r k K=>intro Q X h;obtain⟨o,O,_⟩:=h;simp [St.get,St.quiet] at O
 | setObj r o k K=>intro Q X h;obtain⟨⟨o,O,_⟩,_⟩:=h;cases O
 | choose q k K=>
  intro Q X h;simp only [lp] at h;by_cases U:q.forced
  ·rw [if_pos U] at h;have Y:∀w,(Sem.choose q k).run P w=(k 0).run P w:=λw=>by simp [Sem.run,U]
   have e2:∀w,(Sem.choose q k).events P w #[]=(k 0).events P w #[]:=λw=>by simp only [Sem.events,Sem.runT];rw [if_pos U]
   simpa only [Y,e2] using K _ h
  ·rw [if_neg U] at h;cases h.1
 | sys c k K=>intro Q X h;exact h.elim
 | program k K=>
  intro Q X h;have Y:∀w,(Sem.program k).run P w=(k P).run P w:=λw=>by simp [Sem.run]
  have e2:∀w,(Sem.program k).events P w #[]=(k P).events P w #[]:=λw=>by simp only [Sem.events,Sem.runT]
  simpa only [Y,e2] using K _ h
 | mark m k K=>
  intro Q X h;obtain⟨hm,h⟩:=h;obtain⟨es,O,Z,ac⟩:=K h;have Y:∀w,(Sem.mark m k).run P w=k.run P w:=λw=>by simp [Sem.run]
  have e2:∀w,(Sem.mark m k).events P w #[]= #[⟨.mark m,false,true⟩]++k.events P w #[]:=λw=>by rw [← Sem.events_acc];simp only [Sem.events,Sem.runT];rfl
  refine⟨#[⟨.mark m,false,true⟩]++es,λw=>by rw [e2,O],λe he=>?_,by simpa only [Y] using ac⟩;rcases Array.mem_append.1 he with he | he
  ·simp at he;subst he;rcases hm with⟨U,_⟩ | hm
   ·cases U
   ·obtain⟨f,rfl⟩:=hm;exact⟨f,V⟩
  ·exact Z e he
 | halt h=>intro Q X ag;exact⟨#[],λw=>by simp [Sem.events_halt],by simp,.inr ⟨h,ag,λw=>rfl⟩⟩
def TO(P:Program)(main:Bool)(g:Goroutine)(s:St)(K:Gs_):Prop:=
 g.status= .running/\(∀w,Fits s w->
  ∃g' s' w' es,stepG P main g w= .go g' w' es/\K g' s'/\Fits s' w'/\Fr s w s' w'/\(∀e∈es,Ev s w w' e))/\
  (s= .quiet->∃g',(∀w,stepG P main g w= .go g' w #[])/\K g' .quiet)
structure Cc (s s₀:St):Prop where
 ext:∀b o,s.E b=some o->s₀.E b=some o
 own:∀b o,s₀.H b=some o->s.H b=some o
 EG:∀b o,s₀.E b=some o->s.E b=some o∨(s.H b=some o/\s₀.H b=none)
 q:s₀.q=s.q
theorem Cc.refl(s:St):Cc s s:=⟨λ_ _ h=>h,λ_ _ h=>h,λ_ _ h=> .inl h,V⟩
theorem Cc.fits{s s₀:St}(g:Cc s s₀){w:World}(f:Fits s w):Fits s₀ w where
 e b o h:=by
  rcases g.EG b o h with x | x
  ·exact f.e _ _ x
  ·exact f.h _ _ x.1
 h b o h:=f.h _ _ (g.own _ _ h)
 d b h:=by
  cases K:s₀.E b with
  | none=>exact absurd K h
  | some o=>
   rcases g.EG b o K with x | x
   ·cases O:s₀.H b with
    | none=>rfl
    | some y=>have:=g.own _ _ O;rw [f.d b (by rw [x];simp)] at this;cases this
   ·exact x.2
theorem H4{α:Type}{x:Option α}(h:x≠none):∃a,x=some a:=by cases x <;> simp at h;exact⟨_,rfl⟩
theorem Cc.fr{s s₀ s':St}{w w':World}(g:Cc s s₀)(f:Fr s₀ w s' w'):Fr s w s' w' where
 size:=f.size
 keep b hb O:=f.keep b hb (by
  cases h:s₀.H b with
  | none=>rfl
  | some o=>rw [g.own _ _ h] at O;cases O)
 own b hb:=(f.own b hb).imp (λh=>by obtain⟨o,K⟩:=H4 h;rw [g.own _ _ K];simp) id
 ext b o h:=f.ext _ _ (g.ext _ _ h)
 EG b hb:=by
  rcases f.EG b hb with h | h | h
  ·obtain⟨o,K⟩:=H4 h;rcases g.EG _ _ K with x | x
   ·exact .inl (by rw [x];simp)
   ·exact .inr (.inl (by rw [x.1];simp))
  ·obtain⟨o,K⟩:=H4 h;exact .inr (.inl (by rw [g.own _ _ K];simp))
  ·exact .inr (.inr h)
 tape:=f.tape
 os:=f.os
 output:=f.output
theorem Cc.GN{s s₀:St}{w w':World}{b:Nat}{wr:Bool}(g:Cc s s₀)(t:GN s₀ w w' b wr):GN s w w' b wr:=by
 refine⟨t.1,?_⟩;rcases t.2 with h | h | ⟨h,hw⟩
 ·obtain⟨o,K⟩:=H4 h;exact .inl (by rw [g.own _ _ K];simp)
 ·exact .inr (.inl h)
 ·obtain⟨o,K⟩:=H4 h;rcases g.EG _ _ K with x | x
  ·exact .inr (.inr ⟨by rw [x];simp,hw⟩)
  ·exact .inl (by rw [x.1];simp)
theorem Cc.ev{s s₀:St}{w w':World}{e:Event}(g:Cc s s₀)(t:Ev s₀ w w' e):Ev s w w' e:=by
 unfold Ev at t ⊢;split <;> rename_i he <;> simp only [he] at t
 ·exact⟨t.1,g.GN t.2⟩
 ·exact⟨t.1,g.GN t.2⟩
 ·trivial
 ·trivial
theorem Cc.quiet{s₀:St}(g:Cc .quiet s₀):s₀= .quiet:=by
 obtain⟨E,H,q⟩:=s₀;have K:E=λ_=>none:=by
  funext b;cases h:E b with
  | none=>rfl
  | some o=>rcases g.EG b o h with x | ⟨x,_⟩ <;> cases x
 have O:H=λ_=>none:=by
  funext b;cases h:H b with
  | none=>rfl
  | some o=>cases g.own b o h
 have U:q=true:=g.q;subst K O U;rfl
inductive Rk:Type where
 | leaf:Rk
 | node (f:World->Rk):Rk
def Rk.sub(a b:Rk):Prop:=∃f w,b= .node f/\a=f w
theorem Rk.wf:WellFounded Rk.sub:=⟨λr=>by
 induction r with
 | leaf=>exact⟨_,λa ⟨f,w,h,_⟩=>by cases h⟩
 | node f K=>exact⟨_,λa ⟨g,w,h,e⟩=>by cases h;subst e;exact K w⟩⟩
def Jr(P:Program)(main:Bool)(Q:Gs_):Rk->Gs_
 | .leaf,g,s=>Q g s
 | .node f,g,s=>Q g s∨(g.status= .running/\∀w,Fits s w->
  ∃g' s' w' es,stepG P main g w= .go g' w' es/\Jr P main Q (f w) g' s'/\Fits s' w'/\Fr s w s' w'/\(∀e∈es,Ev s w w' e)/\(s= .quiet->s'= .quiet/\w'=w/\es= #[]))
structure Judge (P:Program) where
 main:Bool
 ok:(Gs_)->Gs_
 stop:∀{Q g s},Q g s->ok Q g s
 step:∀{Q g s},TO P main g s (ok Q)->ok Q g s
 trans:∀{Q R g s},ok Q g s->(∀g' s',Q g' s'->ok R g' s')->ok R g s
 ghost:∀{Q g s s₀},Cc s s₀->ok Q g s₀->ok Q g s
def JQ(Q:Gs_)(g:Goroutine)(s:St):Prop:=∃s₀,Cc s s₀/\Q g s₀
theorem Cc.trans{a b c:St}(h:Cc a b)(k:Cc b c):Cc a c where
 ext x o y:=k.ext _ _ (h.ext _ _ y)
 own x o y:=h.own _ _ (k.own _ _ y)
 EG x o y:=by
  rcases k.EG x o y with z | z
  ·rcases h.EG x o z with u | u
   ·exact .inl u
   ·refine .inr ⟨u.1,?_⟩;cases K:c.H x with
    | none=>rfl
    | some v=>have:=k.own _ _ K;rw [u.2] at this;cases this
  ·exact .inr ⟨h.own _ _ z.1,z.2⟩
 q:=k.q.trans h.q
def AU(P:Program)(main:Bool):Judge P where
 main:=main
 ok Q g s:=∃r,Jr P main (JQ Q) r g s
 stop h:=⟨.leaf,_,.refl _,h⟩
 step {Q g s} h:=by
  obtain⟨U,h,hu⟩:=h;have al:∀w,∃r:Rk,Fits s w->∃g' s' w' es,stepG P main g w= .go g' w' es/\Jr P main (JQ Q) r g' s'/\Fits s' w'/\Fr s w s' w'/\(∀e∈es,Ev s w w' e)/\(s= .quiet->s'= .quiet/\w'=w/\es= #[]):=by
   intro w;by_cases f:Fits s w
   ·by_cases e:s= .quiet
    ·obtain⟨g',K,r,O⟩:=hu e;exact⟨r,λ_=>⟨g',.quiet,w,#[],K w,O,e▸f,e▸ .refl _ _,by simp,λ_=>⟨V,V,V⟩⟩⟩
    ·obtain⟨g',s',w',es,K,⟨r,O⟩,ac,am,ap⟩:=h w f;exact⟨r,λ_=>⟨g',s',w',es,K,O,ac,am,ap,λx=>absurd x e⟩⟩
   ·exact⟨.leaf,λx=>absurd x f⟩
  exact⟨.node λw=>Classical.choose (al w),.inr ⟨U,λw f=>Classical.choose_spec (al w) f⟩⟩
 trans {Q R g s} h k:=by
  obtain⟨r,h⟩:=h;have aw:∀(r:Rk) {g:Goroutine} {s s₀:St},Cc s s₀->Jr P main (JQ R) r g s₀->Jr P main (JQ R) r g s:=by
   intro r g s s₀ Y Z;cases r with
   | leaf=>obtain⟨ag,K,O⟩:=Z;exact⟨ag,Y.trans K,O⟩
   | node f=>
    rcases Z with⟨ag,K,O⟩ | ⟨U,Z⟩
    ·exact .inl ⟨ag,Y.trans K,O⟩
    ·exact .inr ⟨U,λw f=>let ⟨g',s',w',es,K,O,ac,am,ap,aq⟩:=Z w (Y.fits f);⟨g',s',w',es,K,O,ac,Y.fr am,λe he=>Y.ev (ap e he),λe=>aq (by subst e;exact Y.quiet)⟩⟩
  induction r generalizing g s with
  | leaf=>
   obtain⟨s₀,K,O⟩:=h;obtain⟨r,U⟩:=k _ _ O;exact⟨r,aw r K U⟩
  | node f a1=>
   rcases h with⟨s₀,K,O⟩ | ⟨U,h⟩
   ·obtain⟨r,U⟩:=k _ _ O;exact⟨r,aw r K U⟩
   ·have al:∀w,∃r:Rk,Fits s w->∃g' s' w' es,stepG P main g w= .go g' w' es/\Jr P main (JQ R) r g' s'/\Fits s' w'/\Fr s w s' w'/\(∀e∈es,Ev s w w' e)/\(s= .quiet->s'= .quiet/\w'=w/\es= #[]):=by
     intro w;by_cases a0:Fits s w
     ·obtain⟨g',s',w',es,K,O,ac⟩:=h w a0;obtain⟨r,U⟩:=a1 w O;exact⟨r,λ_=>⟨g',s',w',es,K,U,ac⟩⟩
     ·exact⟨.leaf,λx=>absurd x a0⟩
    exact⟨.node λw=>Classical.choose (al w),.inr ⟨U,λw f=>Classical.choose_spec (al w) f⟩⟩
 ghost {Q g s s₀} Y h:=by
  obtain⟨r,Z⟩:=h;refine⟨r,?_⟩;cases r with
  | leaf=>obtain⟨ag,K,O⟩:=Z;exact⟨ag,Y.trans K,O⟩
  | node f=>
   rcases Z with⟨ag,K,O⟩ | ⟨U,Z⟩
   ·exact .inl ⟨ag,Y.trans K,O⟩
   ·exact .inr ⟨U,λw f=>let ⟨g',s',w',es,K,O,ac,am,ap,aq⟩:=Z w (Y.fits f);⟨g',s',w',es,K,O,ac,Y.fr am,λe he=>Y.ev (ap e he),λe=>aq (by subst e;exact Y.quiet)⟩⟩
def Lv(P:Program)(Q:Gs_):Nat->Goroutine->Prop
 | 0,g=>Q g .quiet
 | n+1,g=>Q g .quiet∨(g.status= .running/\∃g',(∀w,stepG P false g w= .go g' w #[])/\Lv P Q n g')
def Ib(P:Program):Judge P where
 main:=false
 ok Q g s:=s= .quiet->∃n,Lv P Q n g
 stop h e:=⟨0,by subst e;exact h⟩
 step {Q g s} h e:=by
  obtain⟨g',K,O⟩:=h.2.2 e;obtain⟨n,U⟩:=O V;exact⟨n+1,.inr ⟨h.1,g',K,U⟩⟩
 trans {Q R g s} h k e:=by
  obtain⟨n,U⟩:=h e;have:∀n g,Lv P Q n g->∃m,Lv P R m g:=by
   intro n
   induction n with
   | zero=>intro g h;exact k _ _ h rfl
   | succ n Y=>
    intro g h;rcases h with h | ⟨Z,g',K,O⟩
    ·exact k _ _ h V
    ·obtain⟨m,hm⟩:=Y g' O;exact⟨m+1,.inr ⟨Z,g',K,hm⟩⟩
  exact this n g U
 ghost {Q g s s₀} ac h e:=by subst e;exact h ac.quiet
def fr(b:Frame)(T:Av_)(ds:Ld_)(todo:Li_):Frame:={b with tmps:=T,todo:=todo,defers:=ds,mode:= .run}
def Ej(b:Frame)(T:Av_)(ds:Ld_)(todo:Li_):Frame:={b with tmps:=T,todo:=todo,defers:=ds,mode:= .returning}
def Bu(T:Av_):Operand->Value
 | .tmp t=>T.getD t undef
 | .const v=>v
 | .global g=> .pointer (some ⟨g,0,none⟩)
 | .func f=> .func (.func f) #[] #[]
abbrev Env:=List (Nat×Value)
def look:Env->Nat->Option Value
 | [],_=>none
 | (t,v)::L,u=>if t=u then some v else look L u
def ev(L:Env):Operand->Option Value
 | .tmp t=>look L t
 | .const v=>some v
 | .global g=>some (.pointer (some ⟨g,0,none⟩))
 | .func f=>some (.func (.func f) #[] #[])
structure Has (n:Nat) (L:Env) (T:Av_):Prop where
 size:T.size=n
 at_:∀t v,look L t=some v->T.getD t undef=v
theorem Has.ev{n:Nat}{L:Env}{T:Av_}(h:Has n L T){x:Operand}{v:Value}(e:ev L x=some v):Bu T x=v:=by
 cases x with
 | tmp t=>exact h.at_ t v e
 | const u=>cases e;rfl
 | global g=>cases e;rfl
 | func f=>cases e;rfl
def CC(T:Av_):Option Tmp->Value->Av_
 | some d,v=>T.setIfInBounds d v
 | none,_=>T
def Au(L:Env):Option Tmp->Value->Env
 | some d,v=>(d,v)::L
 | none,_=>L
def Bf(n:Nat):Option Tmp->Bool
 | some d=>d<n
 | none=>true
theorem Xm(T:Av_)(d:Nat)(v:Value)(h:d<T.size)(t:Nat):(T.setIfInBounds d v).getD t undef=if d=t then v else T.getD t undef:=by
 by_cases e:d=t
 ·subst e;simp [Array.getD_eq_getD_getElem?,h]
 ·simp [Array.getD_eq_getD_getElem?,e]
theorem Has.put{n:Nat}{L:Env}{T:Av_}(h:Has n L T){d:Option Tmp}(hd:Bf n d=true)(v:Value):Has n (Au L d v) (CC T d v):=by
 cases d with
 | none=>exact h
 | some d=>
  have K:d<T.size:=by rw [h.size];simpa [Bf] using hd
  refine⟨by simp [CC,h.size],λt u hu=>?_⟩;simp only [CC,Xm T d v K];simp only [Au,look] at hu;split at hu
  ·rename_i e;rw [if_pos e];exact Option.some.inj hu
  ·rename_i e;rw [if_neg e];exact h.at_ t u hu
def Sub:Env->Env->Prop
 | [],_=>True
 | (t,v)::L',L=>look L t=some v/\Sub L' L
theorem Sub.look{L:Env}:∀{L':Env},Sub L' L->∀t v,look L' t=some v->Pal.look L t=some v
 | [],_,t,v,e=>by simp [Pal.look] at e
 | (u,w)::L',h,t,v,e=>by
  simp only [Pal.look] at e
  split at e
  ·rename_i K;subst K;cases e;exact h.1
  ·exact Sub.look h.2 t v e
theorem Has.sub{n:Nat}{L L':Env}{T:Av_}(h:Has n L T)(s:Sub L' L):Has n L' T:=⟨h.size,λt v e=>h.at_ t v (s.look t v e)⟩
variable {P:Program}
section
variable (J:Judge P)(Q:Gs_)
def JL(b:Frame)(n:Nat)(L:Env)(ds:Ld_)(todo:Li_)(cs:Lf_)(s:St):Prop:=
 ∀T,Has n L T->J.ok Q (G (fr b T ds todo) cs) s
end
variable {J:Judge P}{Q:Gs_}{L L':Env}{ds:Ld_}{k:Li_}{cs:Lf_}{s s':St}
section
variable {b:Frame}{n:Nat}
theorem Judge.C8{g g':Goroutine}(K:g.status= .running)(h:∀w,stepG P J.main g w= .go g' w)(k:J.ok Q g' s):J.ok Q g s:=
 J.step ⟨K,λw f=>⟨g',s,w,#[],h w,k,f,.refl _ _,by simp⟩,λe=>⟨g',h,e▸k⟩⟩
theorem DW(h:Sub L' L)(k':JL J Q b n L' ds k cs s):JL J Q b n L ds k cs s:=λT K=>k' T (K.sub h)
theorem JL.ghost(h:Cc s s')(k':JL J Q b n L ds k cs s'):JL J Q b n L ds k cs s:=λT K=>J.ghost h (k' T K)
theorem JL.skip(h:JL J Q b n L ds k cs s):JL J Q b n L ds (.code .skip::k) cs s:=λT K=>Judge.C8 V (λw=>by simp [G,stepG,stepG.exec,fr]) (h T K)
theorem JL.label{l:Nat}(h:JL J Q b n L ds k cs s):JL J Q b n L ds (.code (.label l)::k) cs s:=λT K=>Judge.C8 V (λw=>by simp [G,stepG,stepG.exec,fr]) (h T K)
theorem ML{i:Nat}(h:JL J Q b n L ds k cs s):JL J Q b n L ds (.inBlock i::k) cs s:=λT K=>Judge.C8 V (λw=>by simp [G,stepG,stepG.exec,fr]) (h T K)
theorem UY{c:Code}(h:JL J Q b n L ds k cs s):JL J Q b n L ds (.inScope c::k) cs s:=λT K=>Judge.C8 V (λw=>by simp [G,stepG,stepG.exec,fr]) (h T K)
theorem JL.seq{x y:Code}(h:JL J Q b n L ds (.code x:: .code y::k) cs s):JL J Q b n L ds (.code (.seq x y)::k) cs s:=λT K=>Judge.C8 V (λw=>by simp [G,stepG,stepG.exec,fr]) (h T K)
theorem JL.block{i:Nat}{c:Code}(h:JL J Q b n L ds (.code c:: .inBlock i::k) cs s):JL J Q b n L ds (.code (.block i c)::k) cs s:=λT K=>Judge.C8 V (λw=>by simp [G,stepG,stepG.exec,fr]) (h T K)
theorem JL.scope{c:Code}(h:JL J Q b n L ds (.code c:: .inScope c::k) cs s):JL J Q b n L ds (.code (.scope c)::k) cs s:=λT K=>Judge.C8 V (λw=>by simp [G,stepG,stepG.exec,fr]) (h T K)
theorem H7{c:Code}(h:JL J Q b n L ds (.code c:: .inLoop c::k) cs s):JL J Q b n L ds (.code (.loop c)::k) cs s:=λT K=>Judge.C8 V (λw=>by simp [G,stepG,stepG.exec,fr]) (h T K)
theorem JL.again{c:Code}(h:JL J Q b n L ds (.code c:: .inLoop c::k) cs s):JL J Q b n L ds (.inLoop c::k) cs s:=λT K=>Judge.C8 V (λw=>by simp [G,stepG,stepG.exec,fr]) (h T K)
theorem JL.exit{i:Nat}{k':Li_}(K:exitTo i k=some k')(h:JL J Q b n L ds k' cs s):JL J Q b n L ds (.code (.exit i)::k) cs s:=λT O=>Judge.C8 V (λw=>by simp [G,stepG,stepG.exec,fr,K]) (h T O)
theorem SB(T:Av_)(todo:Li_)(x:Operand):(fr b T ds todo).eval x=Bu T x:=by cases x <;> rfl
theorem Ro(T:Av_)(todo:Li_):(fr b T ds todo).eval=Bu T:=funext (SB T todo)
theorem JL.cond{c:Operand}{x y:Code}{t:Bool}(U:ev L c=some (.bool t))(h:JL J Q b n L ds (.code (if t then x else y)::k) cs s):JL J Q b n L ds (.code (.cond c x y)::k) cs s:=λT O=>
 Judge.C8 V (λw=>by
  have K:=SB (b:=b) (ds:=ds) T (.code (.cond c x y)::k) c
  rw [O.ev U] at K
  simp only [fr] at K
  simp [G,stepG,stepG.exec,fr,K]) (h T O)
theorem Wk{c:Operand}{x y:Code}(K:ev L c=some (.bool true))(h:JL J Q b n L ds (.code x::k) cs s):JL J Q b n L ds (.code (.cond c x y)::k) cs s:=JL.cond K h
theorem VF{c:Operand}{x y:Code}(K:ev L c=some (.bool false))(h:JL J Q b n L ds (.code y::k) cs s):JL J Q b n L ds (.code (.cond c x y)::k) cs s:=JL.cond K h
theorem OX{c:Operand}{x y:Code}{t:Bool}(K:ev L c=some (.bool t))(O:t=true->JL J Q b n L ds (.code x::k) cs s)(U:t=false->JL J Q b n L ds (.code y::k) cs s):JL J Q b n L ds (.code (.cond c x y)::k) cs s:=by
 cases t
 ·exact JL.cond K (U V)
 ·exact JL.cond K (O V)
theorem F8{c:Operand}{x y:Code}{p:Prop} [Decidable p] (K:ev L c=some (.bool (decide p)))(O:p->JL J Q b n L ds (.code x::k) cs s)(U:¬p->JL J Q b n L ds (.code y::k) cs s):JL J Q b n L ds (.code (.cond c x y)::k) cs s:=
 OX K (λh=>O (of_decide_eq_true h)) (λh=>U (of_decide_eq_false h))
theorem JL.loop{α:Type}{c:Code}(I:α->Prop)(O:α->Nat)(U:α->Env)(Y:α->St)(Z:α)(ac:I Z)(ag:L=U Z)(al:s=Y Z)
  (round:∀a,I a->(∀K,I K->O K<O a->JL J Q b n (U K) ds (.inLoop c::k) cs (Y K))->JL J Q b n (U a) ds (.code c:: .inLoop c::k) cs (Y a)):
  JL J Q b n L ds (.code (.loop c)::k) cs s:=by
 refine H7 ?_;subst ag al;have key:∀m a,O a=m->I a->JL J Q b n (U a) ds (.code c:: .inLoop c::k) cs (Y a):=by
  intro m
  induction m using Nat.strongRecOn with
  | _ m am=>intro a hm ap;exact round a ap λK aq aw=>JL.again (am (O K) (hm▸aw) K rfl aq)
 exact key _ Z V ac
theorem JL.region{id:Nat}{ops:Ao_}(h:JL J Q b n L ds (.inRegion ops (List.range ops.size)::k) cs s):JL J Q b n L ds (.code (.region id ops false)::k) cs s:=λT K=>Judge.C8 V (λw=>by simp [G,stepG,stepG.exec,fr]) (h T K)
theorem JL.done{ops:Ao_}(h:JL J Q b n L ds k cs s):JL J Q b n L ds (.inRegion ops []::k) cs s:=λT K=>Judge.C8 V (λw=>by simp [G,stepG,stepG.exec,fr]) (h T K)
theorem SJ{id:Nat}{ops:Ao_}(K:s.q=false)(hm:P.follows .mixedOrders=true)(h:∀t,JL J Q b n L ds (.inRegion ops (Region.linearise .any ops t)::k) cs s):JL J Q b n L ds (.code (.region id ops true)::k) cs s:=λT O=>by
 refine J.step ⟨rfl,λw f=>⟨_,s,{w with drawn:=w.drawn+1},#[],?_,h (w.tape w.drawn (.order b.fn id)) T O,⟨f.e,f.h,f.d⟩,⟨Nat.le_refl _,λ_ _ _=>rfl,λ_ h=> .inl h,λ_ _ h=>h,λ_ h=> .inl h,rfl,rfl,rfl⟩,by simp⟩,λe=>by subst e;cases K⟩
 simp [G,stepG,stepG.exec,fr,choose,Sem.run,Question.forced,Question.cut,Region.schedule,hm]
theorem Gq(T:Av_)(ops:Ao_)(i:Nat)(rest:List Nat)(v:Value)(o:Oper)(K:ops[i]? =some o):
  (fr b T ds (.inRegion ops (i::rest)::k)).finish v=fr b (CC T o.dst v) ds (.inRegion ops rest::k):=by
 cases hd:o.dst <;> simp [Frame.finish,fr,K,hd,CC]
theorem stepG_op{main:Bool}{T:Av_}{ops:Ao_}{i:Nat}{rest:List Nat}{o:Oper}{w:World}(K:ops[i]? =some o)(hw:Region.wanted o (yielded ops T)=true):
  stepG P main (G (fr b T ds (.inRegion ops (i::rest)::k)) cs) w=
   match b.roundOf,o.op with
   | some l,.defer c=>stepG.apply P true (fr b T ds (.inRegion ops (i::rest)::k)) cs none (do Instr.deferInRound l (← resolve (Bu T) c o.type);pure .skip) w
   | _,_=>stepG.apply P true (fr b T ds (.inRegion ops (i::rest)::k)) cs none (execOp (Bu T) o) w:=by
 have he:=Ro (b:=b) (ds:=ds) T (.inRegion ops (i::rest)::k);simp only [fr] at he;simp only [G,stepG,stepG.exec,fr,K,Option.map_some,Option.getD_some,hw,if_true,stepG.oper,Frame.oper?,he]
 rfl
theorem F0(T:Av_)(todo:Li_):(fr b T ds todo).fn=b.fn:=rfl
theorem Ic(T:Av_)(todo:Li_):(fr b T ds todo).todo=todo:=rfl
def upon(J:Judge P)(Q:Gs_)(b:Frame)(T:Av_)(ds:Ld_)(ops:Ao_)(i:Nat)(rest:List Nat)(k:Li_)(cs:Lf_)(dst:Option Tmp):Next->St->Prop
 | .value v,s=>J.ok Q (G (fr b (CC T dst v) ds (.inRegion ops rest::k)) cs) s
 | .skip,s=>J.ok Q (G (fr b (CC T dst undef) ds (.inRegion ops rest::k)) cs) s
 | .defer d,s=>J.ok Q (G (fr b (CC T dst undef) (d::ds) (.inRegion ops rest::k)) cs) s
 | .enter f args,s=>J.ok Q (G (Frame.enter P f args .normal) (fr b T ds (.inRegion ops (i::rest)::k)::cs)) s
 | .round l f tmps assign body,s=>J.ok Q (G (Frame.round l f tmps assign body .normal) (fr b T ds (.inRegion ops (i::rest)::k)::cs)) s
 | _,_=>False
def Lb(J:Judge P)(Q:Gs_)(b:Frame)(T:Av_)(ds:Ld_)(ops:Ao_)(i:Nat)(rest:List Nat)(k:Li_)(cs:Lf_):Halt->St->Prop
 | .panic v,s=>J.ok Q (G ((fr b T ds (.inRegion ops (i::rest)::k)).raise [{v,recovered:=false}]) cs) s
 | _,_=>False
theorem O8{s:St}{w w':World}{fn:FuncId}{es:Array Event}(h:∀e∈es,Ev s w w' e):∀e∈seen P fn es,Ev s w w' e:=λe he=>h e (mem_seen he)
theorem Judge.oper{T:Av_}{ops:Ao_}{i:Nat}{rest:List Nat}{o:Oper}(al:ops[i]? =some o)(hw:Region.wanted o (yielded ops T)=true)(a1:b.kind≠ .early)
  (hd:b.roundOf=none∨∀c,o.op≠ .defer c)
  (h:lp P (execOp (Bu T) o) s (upon J Q b T ds ops i rest k cs o.dst) (Lb J Q b T ds ops i rest k cs)):
  J.ok Q (G (fr b T ds (.inRegion ops (i::rest)::k)) cs) s:=by
 have U:((fr b T ds (.inRegion ops (i::rest)::k)).kind==CallKind.early)=false:=by simpa [fr] using a1
 have aw:∀w,stepG P J.main (G (fr b T ds (.inRegion ops (i::rest)::k)) cs) w=stepG.apply P true (fr b T ds (.inRegion ops (i::rest)::k)) cs none (execOp (Bu T) o) w:=by
  intro w;rw [stepG_op al hw];split
  ·rename_i l c a0 e2;rcases hd with hd | hd
   ·rw [hd] at a0;cases a0
   ·exact absurd e2 (hd c)
  ·rfl
 refine J.step ⟨V,λw f=>?_,λe=>?_⟩
 rotate_left
 ·subst e;simp only [aw];have am:=λv=>Gq (b:=b) (ds:=ds) (k:=k) T ops i rest v o al;obtain⟨es,he,Y,h⟩:=RH _ h;have ag:seen P b.fn es= #[]:=Qt Y;rcases h with⟨ap,K,O⟩ | ⟨x,K,O⟩
  ·cases ap with
   | value v=>exact⟨_,λw=>by simp [stepG.apply,O,U,GStep.after,G,am,F0,he,ag],K⟩
   | skip=>exact⟨_,λw=>by simp [stepG.apply,O,U,GStep.after,G,am,F0,he,ag],K⟩
   | enter g args=>exact⟨_,λw=>by simp [stepG.apply,O,U,GStep.after,G,F0,Ic,he,ag],K⟩
   | round l g tm as a2=>exact⟨_,λw=>by simp [stepG.apply,O,U,GStep.after,G,F0,Ic,he,ag],K⟩
   | defer d=>
    have aq:=Gq (b:=b) (ds:=d::ds) (k:=k) T ops i rest undef o al;exact⟨_,λw=>by rw [← aq];simp [stepG.apply,O,U,GStep.after,G,F0,Ic,he,ag];rfl,K⟩
   | _=>exact K.elim
  ·cases x with
   | panic v=>exact⟨_,λw=>by simp [stepG.apply,O,U,GStep.after,G,F0,Ic,he,ag],K⟩
   | _=>exact K.elim
 obtain⟨s',Z,ac,a3,K⟩:=M3 _ h f;rw [aw];have Y:=O8 (P:=P) (fn:=b.fn) a3;have am:=λv=>Gq (b:=b) (ds:=ds) (k:=k) T ops i rest v o al;cases O:(execOp (Bu T) o).run P w with
 | ok ap w'=>
  rw [O] at Z ac K Y;simp only [Kz] at Z ac Y;cases ap with
  | value v=>exact⟨_,s',w',seen P b.fn ((execOp (Bu T) o).events P w #[])++ #[],by simp [stepG.apply,O,U,GStep.after,G,am,F0],K,Z,ac,by simpa using Y⟩
  | skip=>exact⟨_,s',w',seen P b.fn ((execOp (Bu T) o).events P w #[])++ #[],by simp [stepG.apply,O,U,GStep.after,G,am,F0],K,Z,ac,by simpa using Y⟩
  | enter g args=>exact⟨_,s',w',seen P b.fn ((execOp (Bu T) o).events P w #[])++ #[],by simp [stepG.apply,O,U,GStep.after,G,F0,Ic],K,Z,ac,by simpa using Y⟩
  | round l g tm as a2=>exact⟨_,s',w',seen P b.fn ((execOp (Bu T) o).events P w #[])++ #[],by simp [stepG.apply,O,U,GStep.after,G,F0,Ic],K,Z,ac,by simpa using Y⟩
  | defer d=>
   have aq:=Gq (b:=b) (ds:=d::ds) (k:=k) T ops i rest undef o al;exact⟨_,s',w',seen P b.fn ((execOp (Bu T) o).events P w #[])++ #[],by
    rw [← aq];simp [stepG.apply,O,U,GStep.after,G,F0,Ic];rfl,K,Z,ac,by simpa using Y⟩
  | _=>exact K.elim
 | halt x w'=>
  rw [O] at Z ac K Y;simp only [Kz] at Z ac Y;cases x with
  | panic v=>exact⟨_,s',w',seen P b.fn ((execOp (Bu T) o).events P w #[])++ #[],by simp [stepG.apply,O,U,GStep.after,G,F0,Ic],K,Z,ac,by simpa using Y⟩
  | _=>exact K.elim
theorem Judge.unwanted{T:Av_}{ops:Ao_}{i:Nat}{rest:List Nat}{o:Oper}(K:ops[i]? =some o)(hw:Region.wanted o (yielded ops T)=false)
  (h:J.ok Q (G (fr b (CC T o.dst undef) ds (.inRegion ops rest::k)) cs) s):J.ok Q (G (fr b T ds (.inRegion ops (i::rest)::k)) cs) s:=by
 refine Judge.C8 V (λw=>?_) h;have O:=Gq (b:=b) (ds:=ds) (k:=k) T ops i rest undef o K;rw [← O];simp [G,stepG,stepG.exec,fr,K,hw]
end
def Yl(P:Program)(o:Oper)(ρ:Operand->Value)(s:St)(v:Value):Prop:=lp P (execOp ρ o) s (λK s'=>K= .value v/\s'=s) (λ_ _=>False)
def EA(L:Env)(ρ:Operand->Value):Prop:=∀x v,ev L x=some v->ρ x=v
def AM(L:Env)(ops:Ao_)(o:Oper):Option Bool:=
 match o.guard with
 | none=>some true
 | some (j,K)=>match(ops[j]?).bind (·.dst) with
  | some d=>match look L d with
   | some (.bool b)=>some (b==K)
   | some (.tuple _)=>some false
   | _=>none
  | none=>none
section
variable {b:Frame}{n:Nat}
theorem Has.FX{T:Av_}(h:Has n L T):EA L (Bu T):=λ_ _ e=>h.ev e
theorem getD_some{T:Av_}{d:Nat}{c:Bool}(h:T.getD d undef= .bool c):T[d]? =some (.bool c):=by
 rw [Array.getD_eq_getD_getElem?] at h;cases K:T[d]? with
 | none=>rw [K] at h;simp [undef] at h
 | some v=>rw [K] at h;simp at h;rw [h]
theorem B3{T:Av_}{ops:Ao_}{o:Oper}{c:Bool}(h:Has n L T)(hw:AM L ops o=some c):Region.wanted o (yielded ops T)=c:=by
 unfold AM at hw;unfold Region.wanted;cases K:o.guard with
 | none=>rw [K] at hw;simpa using hw
 | some p=>
  obtain⟨j,Y⟩:=p;rw [K] at hw;simp only at hw ⊢;cases hd:(ops[j]?).bind (·.dst) with
  | none=>rw [hd] at hw;simp at hw
  | some d=>
   rw [hd] at hw;simp only at hw;cases O:look L d with
   | none=>rw [O] at hw;simp at hw
   | some v=>
    rw [O] at hw;cases v with
    | bool x=>
     simp only [Option.some.injEq] at hw;have:=getD_some (h.at_ d _ O);simp only [yielded,hd,Option.bind_some,this];simp [← hw]
    | tuple c=>
     simp only [Option.some.injEq] at hw;have K:=h.at_ d _ O;simp only [yielded,hd,Option.bind_some];cases U:T[d]? with
     | none=>simp [← hw]
     | some u=>
      have:u= .tuple c:=by rw [Array.getD_eq_getD_getElem?,U] at K;exact K
      subst this;simp [← hw]
    | _=>simp at hw
def DY:Op->Bool | .defer _=>true | _=>false
def BH(b:Frame)(n:Nat)(o:Oper):Bool:=(b.kind != .early)&&(Bf n o.dst&& !DY o.op)
theorem Yl.out{P:Program}{o:Oper}{ρ:Operand->Value}{s:St}{v:Value}(h:Yl P o ρ s v):Pal.lp P (execOp ρ o) s (λK s'=>K= .value v/\s'=s) (λ_ _=>False):=by unfold Yl at h;exact h
theorem A1{ops:Ao_}{i:Nat}{rest:List Nat}{o:Oper}{v:Value}(U:ops[i]? =some o)(hw:AM L ops o=some true)(K:BH b n o=true)
  (h:∀ρ,EA L ρ->Yl P o ρ s v) (Y:JL J Q b n (Au L o.dst v) ds (.inRegion ops rest::k) cs s):
  JL J Q b n L ds (.inRegion ops (i::rest)::k) cs s:=λT O=>by
 simp only [BH,Bool.and_eq_true] at K
 obtain⟨K,Z,hd⟩:=K
 refine Judge.oper U (B3 O hw) (by simpa using K) (.inr λc ac=>by rw [ac] at hd;simp [DY] at hd) (DG _ (h _ O.FX).out ?_ ?_)
 ·rintro al s' ⟨rfl,rfl⟩
  exact Y _ (O.put Z v)
 ·intro _ _ ag;exact ag.elim
theorem Ih{ops:Ao_}{i:Nat}{rest:List Nat}{o:Oper}(O:ops[i]? =some o)(hw:AM L ops o=some false)(U:Bf n o.dst=true)
  (Y:JL J Q b n (Au L o.dst undef) ds (.inRegion ops rest::k) cs s):
  JL J Q b n L ds (.inRegion ops (i::rest)::k) cs s:=λ_ K=>
 Judge.unwanted O (B3 K hw) (Y _ (K.put U undef))
theorem JL.op{ops:Ao_}{i:Nat}{rest:List Nat}{o:Oper}(ac:ops[i]? =some o)(hw:AM L ops o=some true)(K:BH b n o=true)
  (h:∀ρ,EA L ρ->lp P (execOp ρ o) s (λU s'=>match U with
   | .value v=>JL J Q b n (Au L o.dst v) ds (.inRegion ops rest::k) cs s'
   | .skip=>JL J Q b n (Au L o.dst undef) ds (.inRegion ops rest::k) cs s'
   | _=>False) (λ_ _=>False)):
  JL J Q b n L ds (.inRegion ops (i::rest)::k) cs s:=λT O=>by
 simp only [BH,Bool.and_eq_true] at K
 obtain⟨K,Z,hd⟩:=K
 refine Judge.oper ac (B3 O hw) (by simpa using K) (.inr λc ag=>by rw [ag] at hd;simp [DY] at hd) (DG _ (h _ O.FX) ?_ ?_)
 ·intro U s' Y
  cases U with
  | value v=>exact Y _ (O.put Z v)
  | skip=>exact Y _ (O.put Z undef)
  | _=>exact Y.elim
 ·intro _ _ al;exact al.elim
end
variable {ρ:Operand->Value}{y z:Operand}{d:Option Tmp}{t u ty:TypeId}{p:String}{af:Ae_}{g:On_}{kd kd':IntKind}{m':Int}
section
variable {x:Operand}{v:Value}{m:Int}
theorem Yl.move(K:ρ x=v):Yl P ⟨d,.move x,ty,p,af,g⟩ ρ s v:=by simp [Yl,execOp,lp,pure,K]
theorem Yl.assign(K:ρ x=v):Yl P ⟨d,.assign x,ty,p,af,g⟩ ρ s v:=by simp [Yl,execOp,lp,pure,K]
theorem LG(K:ρ z= .bool true)(O:ρ x=v):Yl P ⟨d,.pick z x y,ty,p,af,g⟩ ρ s v:=by simp [Yl,execOp,lp,pure,bind,Sem.bind,asBool,K,O]
theorem Wt(K:ρ z= .bool false)(O:ρ y=v):Yl P ⟨d,.pick z x y,ty,p,af,g⟩ ρ s v:=by simp [Yl,execOp,lp,pure,bind,Sem.bind,asBool,K,O]
theorem Yl.lss(K:ρ x= .int kd m)(O:ρ y= .int kd m'):Yl P ⟨d,.binOp .lss t x y u,ty,p,af,g⟩ ρ s (.bool (decide (m<m'))):=by
 simp [Yl,execOp,lp,pure,bind,Sem.bind,K,O,eqGuard,Go.binOp,Op.intCmp]
theorem Yl.leq(K:ρ x= .int kd m)(O:ρ y= .int kd m'):Yl P ⟨d,.binOp .leq t x y u,ty,p,af,g⟩ ρ s (.bool (decide (m<=m'))):=by
 simp [Yl,execOp,lp,pure,bind,Sem.bind,K,O,eqGuard,Go.binOp,Op.intCmp]
theorem Yl.gtr(K:ρ x= .int kd m)(O:ρ y= .int kd m'):Yl P ⟨d,.binOp .gtr t x y u,ty,p,af,g⟩ ρ s (.bool (decide (m'<m))):=by
 simp [Yl,execOp,lp,pure,bind,Sem.bind,K,O,eqGuard,Go.binOp,Op.intCmp]
theorem Yl.geq(K:ρ x= .int kd m)(O:ρ y= .int kd m'):Yl P ⟨d,.binOp .geq t x y u,ty,p,af,g⟩ ρ s (.bool (decide (m'<=m))):=by
 simp [Yl,execOp,lp,pure,bind,Sem.bind,K,O,eqGuard,Go.binOp,Op.intCmp]
theorem Yl.eql(K:ρ x= .int kd m)(O:ρ y= .int kd m'):Yl P ⟨d,.binOp .eql t x y u,ty,p,af,g⟩ ρ s (.bool (decide (m=m'))):=by
 simp [Yl,execOp,lp,pure,bind,Sem.bind,K,O,eqGuard,Go.binOp,Op.intCmp];rfl
theorem Yl.neq(K:ρ x= .int kd m)(O:ρ y= .int kd m'):Yl P ⟨d,.binOp .neq t x y u,ty,p,af,g⟩ ρ s (.bool (!decide (m=m'))):=by
 simp [Yl,execOp,lp,pure,bind,Sem.bind,K,O,eqGuard,Go.binOp,Op.intCmp];rfl
theorem Yl.add(K:ρ x= .int kd m)(O:ρ y= .int kd m'):Yl P ⟨d,.binOp .add t x y u,ty,p,af,g⟩ ρ s (.int kd (kd.wrap (m+m'))):=by
 simp [Yl,execOp,lp,pure,bind,Sem.bind,K,O,eqGuard,Go.binOp,Op.intArith]
theorem Yl.sub(K:ρ x= .int kd m)(O:ρ y= .int kd m'):Yl P ⟨d,.binOp .sub t x y u,ty,p,af,g⟩ ρ s (.int kd (kd.wrap (m - m'))):=by
 simp [Yl,execOp,lp,pure,bind,Sem.bind,K,O,eqGuard,Go.binOp,Op.intArith]
theorem Yl.mul(K:ρ x= .int kd m)(O:ρ y= .int kd m'):Yl P ⟨d,.binOp .mul t x y u,ty,p,af,g⟩ ρ s (.int kd (kd.wrap (m*m'))):=by
 simp [Yl,execOp,lp,pure,bind,Sem.bind,K,O,eqGuard,Go.binOp,Op.intArith]
theorem Jy{a:Int}(h: -9223372036854775808<=a/\a<=9223372036854775807):IntKind.i64.wrap a=a:=by
 simp only [IntKind.wrap,IntKind.bits,IntKind.signed];simp;split <;> omega
theorem X7(K:ρ x= .int .i64 m)(O:ρ y= .int .i64 m')(hb: -9223372036854775808<=m+m'/\m+m'<=9223372036854775807):Yl P ⟨d,.binOp .add t x y u,ty,p,af,g⟩ ρ s (.int .i64 (m+m')):=by
 have:=Yl.add (P:=P) (s:=s) (d:=d) (t:=t) (u:=u) (ty:=ty) (p:=p) (af:=af) (g:=g) K O;rwa [Jy hb] at this
theorem Yj(K:ρ x= .int .i64 m)(O:ρ y= .int .i64 m')(hb: -9223372036854775808<=m - m'/\m - m'<=9223372036854775807):Yl P ⟨d,.binOp .sub t x y u,ty,p,af,g⟩ ρ s (.int .i64 (m - m')):=by
 have:=Yl.sub (P:=P) (s:=s) (d:=d) (t:=t) (u:=u) (ty:=ty) (p:=p) (af:=af) (g:=g) K O;rwa [Jy hb] at this
theorem Yo(K:ρ x= .int .i64 m)(O:ρ y= .int .i64 m')(hb: -9223372036854775808<=m*m'/\m*m'<=9223372036854775807):Yl P ⟨d,.binOp .mul t x y u,ty,p,af,g⟩ ρ s (.int .i64 (m*m')):=by
 have:=Yl.mul (P:=P) (s:=s) (d:=d) (t:=t) (u:=u) (ty:=ty) (p:=p) (af:=af) (g:=g) K O;rwa [Jy hb] at this
theorem Yl.rem(K:ρ x= .int kd m)(O:ρ y= .int kd m')(U:m'≠0):Yl P ⟨d,.binOp .rem t x y u,ty,p,af,g⟩ ρ s (.int kd (m.tmod m')):=by
 simp [Yl,execOp,lp,pure,bind,Sem.bind,K,O,eqGuard,Go.binOp,Op.intDiv,U]
theorem Yl.quo(K:ρ x= .int kd m)(O:ρ y= .int kd m')(U:m'≠0):Yl P ⟨d,.binOp .quo t x y u,ty,p,af,g⟩ ρ s (.int kd (kd.wrap (m.tdiv m'))):=by
 simp [Yl,execOp,lp,pure,bind,Sem.bind,K,O,eqGuard,Go.binOp,Op.intDiv,U]
theorem Yl.and(K:ρ x= .int kd m)(O:ρ y= .int kd m'):Yl P ⟨d,.binOp .and t x y u,ty,p,af,g⟩ ρ s (.int kd (kd.wrap (BitVec.ofInt kd.bits m&&& BitVec.ofInt kd.bits m').toNat)):=by
 simp [Yl,execOp,lp,pure,bind,Sem.bind,K,O,eqGuard,Go.binOp,Op.intBits]
theorem Yl.or(K:ρ x= .int kd m)(O:ρ y= .int kd m'):Yl P ⟨d,.binOp .or t x y u,ty,p,af,g⟩ ρ s (.int kd (kd.wrap (BitVec.ofInt kd.bits m ||| BitVec.ofInt kd.bits m').toNat)):=by
 simp [Yl,execOp,lp,pure,bind,Sem.bind,K,O,eqGuard,Go.binOp,Op.intBits]
theorem Yl.xor(K:ρ x= .int kd m)(O:ρ y= .int kd m'):Yl P ⟨d,.binOp .xor t x y u,ty,p,af,g⟩ ρ s (.int kd (kd.wrap (BitVec.ofInt kd.bits m ^^^ BitVec.ofInt kd.bits m').toNat)):=by
 simp [Yl,execOp,lp,pure,bind,Sem.bind,K,O,eqGuard,Go.binOp,Op.intBits]
theorem Yl.shl(K:ρ x= .int kd m)(O:ρ y= .int kd' m')(U:0<=m'):Yl P ⟨d,.binOp .shl t x y u,ty,p,af,g⟩ ρ s (.int kd (kd.wrap (m*2 ^ (min m'.toNat kd.bits)))):=by
 have:¬m'<0:=by omega
 simp [Yl,execOp,lp,pure,bind,Sem.bind,K,O,eqGuard,Go.binOp,Op.shift,this]
theorem Yl.shr(K:ρ x= .int kd m)(O:ρ y= .int kd' m')(U:0<=m'):Yl P ⟨d,.binOp .shr t x y u,ty,p,af,g⟩ ρ s (.int kd (m.fdiv (2 ^ (min m'.toNat kd.bits)))):=by
 have:¬m'<0:=by omega
 simp [Yl,execOp,lp,pure,bind,Sem.bind,K,O,eqGuard,Go.binOp,Op.shift,this]
theorem Yl.not{c:Bool}(K:ρ x= .bool c):Yl P ⟨d,.unOp .not t x,ty,p,af,g⟩ ρ s (.bool (!c)):=by
 simp [Yl,execOp,lp,pure,bind,Sem.bind,K,Op.unary]
theorem YJ(K:ρ x= .int .i64 m)(hb: -9223372036854775808<= -m/\ -m<=9223372036854775807):Yl P ⟨d,.unOp .neg t x,ty,p,af,g⟩ ρ s (.int .i64 (-m)):=by
 simp [Yl,execOp,lp,pure,bind,Sem.bind,K,Op.unary,Op.intArith,Jy hb]
theorem Fb(K:P.underlying t=some (.int kd'))(hu:P.underlying u=some (.int kd))(O:ρ x= .int kd' m):Yl P ⟨d,.convert t u x,ty,p,af,g⟩ ρ s (.int kd (kd.wrap m)):=by
 simp [Yl,execOp,lp,pure,bind,Sem.bind,O,Go.convert,underlying,program,K,hu,Conv.intToInt]
theorem Yl.extract{vs:Av_}{i:Nat}(K:ρ x= .tuple vs)(hi:vs[i]? =some v):Yl P ⟨d,.extract x i,ty,p,af,g⟩ ρ s v:=by
 simp [Yl,execOp,lp,pure,bind,Sem.bind,K,Instr.extract,hi]
theorem Yl.nilCheck{a:Addr}(K:ρ x= .pointer (some a)):Yl P ⟨d,.nilCheck x,ty,p,af,g⟩ ρ s (.pointer (some a)):=by
 simp [Yl,execOp,lp,pure,K]
theorem Yl.len{a:Option Addr}{e:TypeId}{l c:Nat}{ats:Array TypeId}(K:ats[0]? =some t)(O:P.underlying t=some (.slice e))(U:ρ x= .slice a l c):
  Yl P ⟨d,.call ⟨.builtin .len,#[x],ats⟩,ty,p,af,g⟩ ρ s (.int .i64 l):=by
 simp [Yl,execOp,lp,pure,bind,Sem.bind,U,resolve,invoke,builtin,Builtin.len_,K,underlying,program,O,goInt]
theorem IY{dsc:TypeDesc}(K:P.underlying t=some dsc)(O:∀ms,dsc≠ .interface ms)(U:ρ x=v):Yl P ⟨d,.makeInterface t x,ty,p,af,g⟩ ρ s (.iface t v):=by
 have:lp P (Instr.makeInterface t v) s (λr s'=>r= .iface t v/\s'=s) (λ_ _=>False):=by
  unfold Instr.makeInterface;simp only [lp,bind,Sem.bind,underlying,program,K];cases dsc <;> first | exact⟨rfl,rfl⟩ | exact absurd rfl (O _)
 simp only [Yl,execOp,U];exact As _ _ (DG _ this (λr s' ⟨Y,Z⟩=>⟨by rw [Y],Z⟩) (λ_ _ h=>h))
theorem KP{fn:Fn}{a c:Array Operand}{va K:Av_}(O:a.map ρ=va)(U:c.map ρ=K):Yl P ⟨d,.makeFunc fn a c,ty,p,af,g⟩ ρ s (.func fn va K):=by
 simp [Yl,execOp,lp,pure,bind,Sem.bind,Instr.makeFunc,O,U]
end
attribute [irreducible] Yl
def Le(E E':LH):Prop:=∀b o,E b=some o->E' b=some o
theorem Le.refl(E:LH):Le E E:=λ_ _ h=>h
theorem Le.trans{E E' K:LH}(h:Le E E')(k:Le E' K):Le E K:=λb o x=>k b o (h b o x)
theorem AF{E:LH}:Le E E:=Le.refl E
theorem Le.Ad{a b c:LH}(h:Le a b)(k:Le b c):Le a c:=h.trans k
def Be:List (Nat×Obj)->LH->LH
 | [],H=>H
 | (b,o)::B,H=>λx=>if x=b then some o else Be B H x
def mk(E H:LH)(B:List (Nat×Obj)):St:=⟨E,Be B H,false⟩
def Nd(E H:LH):List (Nat×Obj)->Prop
 | []=>True
 | (b,_)::B=>E b=none/\H b=none/\(∀p∈B,p.1≠b)/\Nd E H B
theorem QO{H:LH}{b:Nat}:∀{B:List (Nat×Obj)},H b=none->(∀p∈B,p.1≠b)->Be B H b=none
 | [],h,_=>h
 | (c,o)::B,h,hb=>by
  have K:b≠c:=λe=>hb (c,o) (by simp) e.symm
  simp only [Be,if_neg K]
  exact QO h λp O=>hb p (List.mem_cons_of_mem _ O)
theorem Hz{H:LH}{b:Nat}:∀{B:List (Nat×Obj)},Be B H b=none->H b=none/\∀p∈B,p.1≠b
 | [],h=>⟨h,by simp⟩
 | (c,o)::B,h=>by
  simp only [Be] at h
  split at h
  ·cases h
  ·rename_i O;obtain⟨U,Y⟩:=Hz h;refine⟨U,λp K=>?_⟩;rcases List.mem_cons.1 K with rfl | K
   ·exact λe=>O e.symm
   ·exact Y p K
theorem Qr{H:LH}{x:Nat}{o:Obj}{r:Nat}:∀{B:List (Nat×Obj)},(∀p∈B,p.1≠r)->Be (B++ [(r,o)]) H x=if x=r then some o else Be B H x
 | [],_=>rfl
 | (c,u)::B,h=>by
  simp only [List.cons_append,Be]
  by_cases e:x=c
  ·subst e
   have:x≠r:=λe=>h (x,u) (by simp) e;simp [this]
  ·simp only [if_neg e];exact Qr λp K=>h p (List.mem_cons_of_mem _ K)
theorem Nd.append{E H:LH}{r:Nat}{o:Obj}(O:E r=none)(U:H r=none):∀{B:List (Nat×Obj)},(∀p∈B,p.1≠r)->Nd E H B->Nd E H (B++ [(r,o)])
 | [],_,_=>⟨O,U,by simp,trivial⟩
 | (c,u)::B,h,Y=>by
  obtain⟨Z,ac,ag,al⟩:=Y
  refine⟨Z,ac,λp K=>?_,Nd.append O U (λp K=>h p (List.mem_cons_of_mem _ K)) al⟩
  rcases List.mem_append.1 K with K | K
  ·exact ag p K
  ·simp at K;subst K;exact λe=>h (c,u) (by simp) e.symm
theorem I3{E H:LH}{b:Nat}{o:Obj}:∀{B:List (Nat×Obj)} {i:Nat},Nd E H B->B[i]? =some (b,o)->Be B H b=some o
 | [],_,_,h=>by simp at h
 | (c,u)::B,0,_,h=>by simp at h;obtain⟨rfl,rfl⟩:=h;simp [Be]
 | (c,u)::B,i+1,K,h=>by
  simp at h
  have O:b≠c:=K.2.2.1 (b,o) (List.mem_of_getElem? h)
  simp only [Be,if_neg O]
  exact I3 K.2.2.2 h
theorem Q2{E H:LH}{b:Nat}{o o':Obj}:∀{B:List (Nat×Obj)} {i:Nat},Nd E H B->B[i]? =some (b,o)->Be (B.set i (b,o')) H=λx=>if x=b then some o' else Be B H x
 | [],_,_,h=>by simp at h
 | (c,u)::B,0,_,h=>by
  simp at h;obtain⟨rfl,rfl⟩:=h
  funext x
  simp only [List.set_cons_zero,Be]
  split <;> rfl
 | (c,u)::B,i+1,K,h=>by
  simp at h
  have O:b≠c:=K.2.2.1 (b,o) (List.mem_of_getElem? h)
  funext x
  simp only [List.set_cons_succ,Be]
  rw [Q2 K.2.2.2 h]
  by_cases e:x=c
  ·subst e;simp [Ne.symm O]
  ·simp [e]
theorem Nd.set{E H:LH}{b:Nat}{o o':Obj}:∀{B:List (Nat×Obj)} {i:Nat},Nd E H B->B[i]? =some (b,o)->Nd E H (B.set i (b,o'))
 | [],_,_,h=>by simp at h
 | (c,u)::B,0,K,h=>by simp at h;obtain⟨rfl,rfl⟩:=h;exact K
 | (c,u)::B,i+1,K,h=>by
  simp at h
  refine⟨K.1,K.2.1,λp O=>?_,K.2.2.2.set h⟩
  have hm:=List.mem_or_eq_of_mem_set O
  rcases hm with hm | rfl
  ·exact K.2.2.1 p hm
  ·exact K.2.2.1 (b,o) (List.mem_of_getElem? h)
theorem Nd.Se{E H:LH}{b:Nat}{o:Obj}:∀{B:List (Nat×Obj)} {i:Nat},Nd E H B->B[i]? =some (b,o)->E b=none
 | [],_,_,h=>by simp at h
 | (c,u)::B,0,K,h=>by simp at h;obtain⟨rfl,rfl⟩:=h;exact K.1
 | (c,u)::B,i+1,K,h=>by simp at h;exact Nd.Se K.2.2.2 h
theorem OA{E H:LH}{B:List (Nat×Obj)}{i b:Nat}{o:Obj}(K:Nd E H B)(h:B[i]? =some (b,o)):(mk E H B).get b=some o:=by
 unfold St.get mk;simp only [K.Se h,I3 K h]
theorem U4{E H:LH}{B:List (Nat×Obj)}{b:Nat}{o:Obj}(h:E b=some o):(mk E H B).get b=some o:=by
 unfold St.get mk;simp only [h]
theorem Rq{E H:LH}{B:List (Nat×Obj)}{i b off:Nat}{c:Av_}{e:TypeId}{f:Nat×Nat}{v:Value}(K:Nd E H B)(h:B[i]? =some (b,.cells c e f))(O:c[off]? =some v):(mk E H B).cell? ⟨b,off,none⟩=some v:=by
 unfold St.cell?;rw [OA K h];exact O
theorem VV{E H:LH}{B:List (Nat×Obj)}{b off:Nat}{c:Av_}{e:TypeId}{f:Nat×Nat}{v:Value}(h:E b=some (.cells c e f))(K:c[off]? =some v):(mk E H B).cell? ⟨b,off,none⟩=some v:=by
 unfold St.cell?;rw [U4 h];exact K
variable {E H:LH}{B B':List (Nat×Obj)}
section
variable {b:Frame}{n:Nat}
theorem Jz{r:Nat}(O:(mk E H B).E r=none)(U:(mk E H B).H r=none)(o:Obj)(Y:Nd E H B):Nd E H (B++ [(r,o)])/\(mk E H B).upd r o=mk E H (B++ [(r,o)]):=by
 obtain⟨Z,K⟩:=Hz U;refine⟨Nd.append O Z K Y,?_⟩;unfold St.upd mk;congr 1;funext x;exact(Qr K).symm
theorem ai{i bk:Nat}{o o':Obj}(K:Nd E H B)(h:B[i]? =some (bk,o)):(mk E H B).upd bk o'=mk E H (B.set i (bk,o')):=by
 unfold St.upd mk;congr 1;exact(Q2 K h).symm
theorem JL.drop(B':List (Nat×Obj))(h:∀p∈B',∃i:Nat,B[i]? =some p)(U:Nd E H B)(k':JL J Q b n L ds k cs (mk E H B')):JL J Q b n L ds k cs (mk E H B):=
 JL.ghost (s':=mk E H B') ⟨λ_ _ h=>h,λx o O=>by
  show Be B H x=some o
  have key:∀{B':List (Nat×Obj)},(∀p∈B',∃i:Nat,B[i]? =some p)->Be B' H x=some o->Be B H x=some o:=by
   intro B'
   induction B' with
   | nil=>
    intro _ O
    have al:∀p∈B,p.1≠x:=by
     intro p K e
     have:∀{B:List (Nat×Obj)},Nd E H B->p∈B->H p.1=none:=by
      intro B U K
      induction B with
      | nil=>simp at K
      | cons q B Y=>
       rcases List.mem_cons.1 K with rfl | K
       ·exact U.2.1
       ·exact Y U.2.2.2 K
     have ac:=this U K
     rw [e] at ac
     have ag:H x=some o:=O
     rw [ac] at ag;cases ag
    have:∀{B:List (Nat×Obj)},(∀p∈B,p.1≠x)->Be B H x=H x:=by
     intro B Z
     induction B with
     | nil=>rfl
     | cons q B Y=>
      have am:x≠q.1:=λe=>Z q (by simp) e.symm
      obtain⟨c,u⟩:=q
      simp only [Be,if_neg am]
      exact Y λp K=>Z p (List.mem_cons_of_mem _ K)
    rw [this al];exact O
   | cons q B' Y=>
    intro Z O
    obtain⟨c,u⟩:=q
    simp only [Be] at O
    split at O
    ·rename_i e;subst e;cases O
     obtain⟨i,hi⟩:=Z (x,o) (by simp)
     exact I3 U hi
    ·exact Y (λp K=>Z p (List.mem_cons_of_mem _ K)) O
  exact key h O,λ_ _ h=> .inl h,V⟩ k'
theorem LA{x:Nat}:∀{B:List (Nat×Obj)} {i:Nat} {bk:Nat} {o u:Obj},Nd E H B->B[i]? =some (bk,o)->Be (B.eraseIdx i) H x=some u->x≠bk/\Be B H x=some u
 | [],_,_,_,_,_,h,_=>by simp at h
 | (c,v)::B,0,bk,o,u,O,h,K=>by
  simp at h;obtain⟨rfl,rfl⟩:=h
  simp only [List.eraseIdx_cons_zero] at K
  have U:x≠c:=by
   intro e;subst e;rw [QO O.2.1 O.2.2.1] at K;cases K
  exact⟨U,by simp only [Be,if_neg U];exact K⟩
 | (c,v)::B,i+1,bk,o,u,O,h,K=>by
  simp at h;simp only [List.eraseIdx_cons_succ,Be] at K ⊢;split at K
  ·rename_i e;subst e;rw [if_pos rfl];exact⟨λe=>O.2.2.1 (bk,o) (List.mem_of_getElem? h) e.symm,K⟩
  ·rename_i e;rw [if_neg e];exact LA O.2.2.2 h K
theorem JL.freeze(i:Nat){bk:Nat}{o:Obj}(K:Nd E H B)(h:B[i]? =some (bk,o))
  (k':∀E',Le E E'->E' bk=some o->Nd E' H (B.eraseIdx i)->JL J Q b n L ds k cs (mk E' H (B.eraseIdx i))):JL J Q b n L ds k cs (mk E H B):=by
 have ap:=List.mem_of_getElem? h;have aq:E bk=none/\H bk=none:=by
  have:∀{B:List (Nat×Obj)},Nd E H B->(bk,o)∈B->E bk=none/\H bk=none:=by
   intro B K O
   induction B with
   | nil=>simp at O
   | cons q B Y=>
    rcases List.mem_cons.1 O with rfl | O
    ·exact⟨K.1,K.2.1⟩
    ·exact Y K.2.2.2 O
  exact this K ap
 let E':LH:=λx=>if x=bk then some o else E x
 have ag:E' bk=some o:=by simp [E']
 have hle:Le E E':=λx u U=>by
  have:x≠bk:=λe=>by subst e;rw [aq.1] at U;cases U
  simp [E',this,U]
 have aw:Nd E' H (B.eraseIdx i):=by
  have:∀{B:List (Nat×Obj)} {i:Nat},Nd E H B->B[i]? =some (bk,o)->Nd E' H (B.eraseIdx i)/\∀p∈B.eraseIdx i,p.1≠bk:=by
   intro B
   induction B with
   | nil=>intro i _ h;simp at h
   | cons q B Y=>
    obtain⟨c,v⟩:=q;intro i K h;have up:∀{B:List (Nat×Obj)},Nd E H B->(∀p∈B,p.1≠bk)->Nd E' H B:=by
     intro B K al
     induction B with
     | nil=>trivial
     | cons q B a0=>exact⟨by simpa [E',al q (by simp)] using K.1,K.2.1,K.2.2.1,a0 K.2.2.2 λp O=>al p (List.mem_cons_of_mem _ O)⟩
    cases i with
    | zero=>
     simp at h;obtain⟨rfl,rfl⟩:=h;exact⟨up K.2.2.2 K.2.2.1,K.2.2.1⟩
    | succ i=>
     simp at h;obtain⟨Z,ac⟩:=Y K.2.2.2 h;have am:c≠bk:=λe=>K.2.2.1 (bk,o) (List.mem_of_getElem? h) e.symm;refine⟨⟨by simpa [E',am] using K.1,K.2.1,λp O=>K.2.2.1 p (List.mem_of_mem_eraseIdx O),Z⟩,λp O=>?_⟩;rcases List.mem_cons.1 O with rfl | O
     ·exact am
     ·exact ac p O
  exact(this K h).1
 refine JL.ghost (s':=mk E' H (B.eraseIdx i)) ⟨λx u U=>hle x u U,λx u U=>(LA K h U).2,λx u U=>?_,V⟩ (k' E' hle ag aw);by_cases e:x=bk
 ·subst e;right;have:u=o:=by have:E' x=some u:=U;rw [ag] at this;exact(Option.some.inj this).symm
  subst this;refine⟨I3 K h,?_⟩;cases a1:(mk E' H (B.eraseIdx i)).H x with
  | none=>rfl
  | some y=>exact absurd rfl (LA K h a1).1
 ·left;have Z:E' x=some u:=U;have ac:E' x=E x:=by simp [E',e]
  show E x=some u;rw [← ac];exact Z
def Fn(P:Program)(f:FuncId)(args:Av_)(s:St)(R:Value->St->Prop):Prop:=
 ∀(J:Judge P) (Q:Gs_) (c:Frame) (cs:Lf_),(∀v s',R v s'->J.ok Q (G (c.finish v) cs) s')->J.ok Q (G (Frame.enter P f args .normal) (c::cs)) s
def Dm(P:Program)(f:FuncId):Bool:=match P.funcs[f]? with | some fn=> !(fn.name== "runtime.NumGoroutine")&&fn.body.isSome | none=>false
def evs(L:Env):List Operand->Option (Lv_)
 | []=>some []
 | x::xs=>match ev L x,evs L xs with | some v,some vs=>some (v::vs) | _,_=>none
theorem FR{L:Env}{ρ:Operand->Value}(h:EA L ρ):∀{xs:List Operand} {vs:Lv_},evs L xs=some vs->xs.map ρ=vs
 | [],vs,e=>by simp [evs] at e;subst e;rfl
 | x::xs,vs,e=>by
  simp only [evs] at e
  split at e
  ·rename_i v ws K O
   cases e;rw [List.map_cons,h x v K,FR h O]
  ·cases e
theorem IW{f:FuncId}{args:Av_}{s:St}{Q:Next->St->Prop}{X:Halt->St->Prop}(K:Dm P f=true)(h:Q (.enter f args) s):lp P (callFunc f args) s Q X:=by
 unfold Dm at K;unfold callFunc;simp only [bind,Sem.bind,program,lp];cases O:P.funcs[f]? with
 | none=>rw [O] at K;cases K
 | some fn=>
  rw [O] at K;simp only [Bool.and_eq_true,Bool.not_eq_true'] at K;have hb:fn.body.isNone=false:=by cases U:fn.body <;> simp_all
  simp only [K.1,hb,Bool.false_eq_true,if_false];exact h
def By(P:Program)(f:FuncId)(L:Env)(n:Nat)(s:St)(v:Value):Prop:=∃fn,P.funcs[f]? =some fn/\∀T,Has n L T->lp P (results fn T) s (λu s'=>u=v/\s'=s) (λ_ _=>False)
theorem Judge.leave{T:Av_}{todo:Li_}{c:Frame}{s:St}{v:Value}{fn:Func}(Y:b.kind= .normal)(Z:P.funcs[b.fn]? =some fn)(U:lp P (results fn T) s (λu s'=>u=v/\s'=s) (λ_ _=>False))
  (h:J.ok Q (G (c.finish v) cs) s):J.ok Q (G (Ej b T [] todo) (c::cs)) s:=by
 refine J.step ⟨V,λw f=>?_,λe=>?_⟩
 rotate_left
 ·subst e;obtain⟨es,he,am,U⟩:=RH _ U;have ap:seen P b.fn es= #[]:=Qt am;rcases U with⟨u,⟨rfl,_⟩,O⟩ | ⟨x,K,_⟩
  ·exact⟨_,λw=>by simp [G,stepG,unwind,Ej,Z,O,doReturn,Y,GStep.after,he,ap],h⟩
  ·exact K.elim
 obtain⟨s',ac,ag,al,K⟩:=M3 _ U f;cases O:(results fn T).run P w with
 | halt x w'=>rw [O] at K;exact K.elim
 | ok u w'=>
  rw [O] at ac ag al K;obtain⟨rfl,rfl⟩:=K;exact⟨_,s',w',seen P b.fn ((results fn T).events P w #[])++ #[],by simp [G,stepG,unwind,Ej,Z,O,doReturn,Y,GStep.after],h,ac,ag,by simp only [Array.append_empty];exact O8 al⟩
theorem JL.ret{s:St}{c:Frame}{v:Value}(O:b.kind= .normal)(U:b.roundOf=none)(K:By P b.fn L n s v)(h:J.ok Q (G (c.finish v) cs) s):JL J Q b n L [] (.code .ret::k) (c::cs) s:=λT Y=>by
 obtain⟨fn,Z,K⟩:=K
 refine Judge.C8 (g':=G (Ej b T [] (.code .ret::k)) (c::cs)) rfl (λw=>by simp [G,stepG,stepG.exec,fr,Ej,U]) ?_
 exact Judge.leave O Z (K T Y) h
theorem JL.fin{s:St}{c:Frame}{v:Value}(O:b.kind= .normal)(U:b.roundOf=none)(K:By P b.fn L n s v)(h:J.ok Q (G (c.finish v) cs) s):JL J Q b n L [] [] (c::cs) s:=λT Y=>by
 obtain⟨fn,Z,K⟩:=K
 refine Judge.C8 (g':=G (Ej b T [] []) (c::cs)) rfl (λw=>by simp [G,stepG,stepG.exec,fr,Ej,U]) ?_
 exact Judge.leave O Z (K T Y) h
theorem By.one{f:FuncId}{fn:Func}{s:St}{t:Tmp}{v:Value}(K:P.funcs[f]? =some fn)(O:fn.results= #[.tmp t])(h:look L t=some v):By P f L n s v:=
 ⟨fn,K,λT U=>by
  have e:results fn T=Sem.pure v:=by
   have:=U.at_ t v h
   simp only [results,O,Array.mapM_eq_mapM_toList]
   show Sem.pure (T.getD t undef)=_
   rw [this]
  rw [e];exact⟨rfl,rfl⟩⟩
theorem By.none{f:FuncId}{fn:Func}{s:St}(K:P.funcs[f]? =some fn)(O:fn.results= #[]):By P f L n s (.tuple #[]):=
 ⟨fn,K,λT U=>by
  have e:results fn T=Sem.pure (.tuple #[]):=by
   simp only [results,O,Array.mapM_eq_mapM_toList]
   rfl
  rw [e];exact⟨rfl,rfl⟩⟩
def Ga:Nat->Lv_->Env
 | _,[]=> []
 | i,v::vs=>(i,v)::Ga (i+1) vs
theorem Jw{i:Nat}{vs:Lv_}{t:Nat}{v:Value}(h:look (Ga i vs) t=some v):i<=t/\vs[t - i]? =some v:=by
 induction vs generalizing i with
 | nil=>simp [Ga,look] at h
 | cons u vs K=>
  simp only [Ga,look] at h;split at h
  ·rename_i e;subst e;cases h;simp
  ·rename_i U;obtain⟨Y,O⟩:=K h;refine⟨by omega,?_⟩;have:t - i=(t - (i+1))+1:=by omega
   rw [this];simpa using O
end
def Bj(P:Program)(t:TypeId):Option Nat:=(P.info? t).map (·.size)
def De(P:Program)(t:TypeId):Option Bool:=match P.underlying t with | some (.struct _)=>some true | some (.array _ _)=>some true | some _=>some false | none=>none
def zeroOf(P:Program)(t:TypeId):Option Value:=(P.info? t).bind (·.zero)
theorem EJ{K:Nat}{Q:Nat->St->Prop}{X:Halt->St->Prop}(h:Bj P t=some K)(k:Q K s):lp P (Go.sizeOf t) s Q X:=by
 unfold Bj at h;simp only [Go.sizeOf,typeInfo,bind,Sem.bind,program,lp];cases hi:P.info? t with
 | none=>rw [hi] at h;cases h
 | some i=>rw [hi] at h;simp at h;subst h;exact k
theorem HA{z:Value}{Q:Value->St->Prop}{X:Halt->St->Prop}(h:zeroOf P t=some z)(k:Q z s):lp P (zeroValue t) s Q X:=by
 unfold zeroOf at h;simp only [zeroValue,typeInfo,bind,Sem.bind,program,lp];cases hi:P.info? t with
 | none=>rw [hi] at h;cases h
 | some i=>
  rw [hi] at h;simp at h;show lp P (match i.zero with | some v=>pure v | none=>unsupported _) s Q X
  rw [h];exact k
theorem M5{c:Bool}{Q:Bool->St->Prop}{X:Halt->St->Prop}(h:De P t=some c)(k:Q c s):lp P (isAgg t) s Q X:=by
 unfold De at h;simp only [isAgg,underlying,bind,Sem.bind,program,lp];cases hu:P.underlying t with
 | none=>rw [hu] at h;cases h
 | some u=>
  rw [hu] at h;cases u <;> simp at h <;> subst h <;> exact k
theorem Cg{u:TypeDesc}{Q:TypeDesc->St->Prop}{X:Halt->St->Prop}(h:P.underlying t=some u)(k:Q u s):lp P (underlying t) s Q X:=by
 simp only [underlying,bind,Sem.bind,program,lp,h];exact k
theorem R5{a:Addr}{v:Value}{Q:Value->St->Prop}{X:Halt->St->Prop}(h:s.cell? a=some v)(k:Q v s):lp P (load a) s Q X:=⟨V,v,h,k⟩
theorem Qk{a:Addr}{Q:Av_->St->Prop}{X:Halt->St->Prop}:∀(vs:Lv_) (i:Nat) (acc:Av_),(∀j v,vs[j]? =some v->s.cell? (a.add (i+j))=some v)->Q (acc++vs.toArray) s->lp P (loadCellsFrom a i vs.length acc) s Q X
 | [],i,acc,_,k=>by simpa [loadCellsFrom,lp,pure] using k
 | v::vs,i,acc,h,k=>by
  simp only [List.length_cons,loadCellsFrom]
  refine As _ _ (R5 (h 0 v V) ?_)
  refine Qk vs (i+1) (acc.push v) (λj u K=>?_) (by simpa using k)
  have:=h (j+1) u (by simpa using K)
  rwa [show i+1+j=i+(j+1) from by omega]
theorem Qw{a:Addr}{vs:Lv_}{m:Nat}{Q:Av_->St->Prop}{X:Halt->St->Prop}(hm:m=vs.length)(h:∀j v,vs[j]? =some v->s.cell? (a.add j)=some v)(k:Q vs.toArray s):lp P (loadCells a m) s Q X:=by
 subst hm;exact Qk vs 0 #[] (λj v K=>by simpa using h j v K) (by simpa using k)
theorem QB{a:Addr}{v:Value}{Q:Value->St->Prop}{X:Halt->St->Prop}(K:De P t=some false)(h:s.cell? a=some v)(k:Q v s):lp P (loadVar t a) s Q X:=by
 unfold loadVar;refine As _ _ (M5 K ?_);exact R5 h k
theorem Qy{a:Addr}{vs:Lv_}{Q:Value->St->Prop}{X:Halt->St->Prop}(K:De P t=some true)(O:Bj P t=some vs.length)(h:∀j v,vs[j]? =some v->s.cell? (a.add j)=some v)(k:Q (.agg vs.toArray) s):lp P (loadVar t a) s Q X:=by
 unfold loadVar;refine As _ _ (M5 K ?_);show lp P (do let r ← loadCells a (← Go.sizeOf t);pure (Value.agg r)) s Q X
 refine As (x:=Go.sizeOf t) _ (EJ O ?_);refine As _ _ (Qw V h ?_);exact k
variable {e:TypeId}
section
variable {x:Operand}{v:Value}{m:Int}
theorem Fo{o:Oper}{sm:Sem Value}(K:execOp ρ o=(do pure (Next.value (← sm))))(h:lp P sm s (λr s'=>r=v/\s'=s) (λ_ _=>False)):Yl P o ρ s v:=by
 unfold Yl;rw [K];exact As _ _ (DG _ h (λr s' ⟨O,U⟩=>⟨by rw [O],U⟩) (λ_ _ h=>h))
theorem Yl.load{a:Addr}(K:De P t=some false)(O:ρ x= .pointer (some a))(h:s.cell? a=some v):Yl P ⟨d,.load t x,ty,p,af,g⟩ ρ s v:=
 Fo (sm:=Instr.loadAt t (ρ x)) V (by rw [O];exact QB K h ⟨rfl,rfl⟩)
theorem H9{a:Addr}{vs:Lv_}(K:De P t=some true)(O:Bj P t=some vs.length)(U:ρ x= .pointer (some a))(h:∀j v,vs[j]? =some v->s.cell? (a.add j)=some v):Yl P ⟨d,.load t x,ty,p,af,g⟩ ρ s (.agg vs.toArray):=
 Fo (sm:=Instr.loadAt t (ρ x)) V (by rw [U];exact Qy K O h ⟨rfl,rfl⟩)
theorem Yl.fieldAddr{a:Addr}{O:Array Field}{i:Nat}{K:Field}{U:Nat}(Y:P.underlying t=some (.struct O))(hi:O[i]? =some K)(Z:Bj P K.type=some (U+1))(ac:ρ x= .pointer (some a)):
  Yl P ⟨d,.fieldAddr t x i,ty,p,af,g⟩ ρ s (.pointer (some (a.add K.offset))):=
 Fo (sm:=Instr.fieldAt t (ρ x) i) V (by
  rw [ac];unfold Instr.fieldAt
  refine As _ _ (Cg Y ?_)
  simp only [hi,Instr.sureAddr,bind,Sem.bind,pure]
  refine As (x:=fieldPlace a K) _ ?_
  unfold fieldPlace
  refine As _ _ (EJ Z ?_)
  simp only [Nat.add_eq_zero_iff,Nat.succ_ne_self,and_false,if_false,lp,pure]
  exact⟨trivial,trivial⟩)
theorem LD{a:Addr}{l c K:Nat}(O:P.underlying t=some (.slice e))(U:Bj P e=some K)(Y:ρ x= .slice (some a) l c)(Z:ρ y= .int kd m)(h:0<=m/\m<l):
  Yl P ⟨d,.indexAddr t x y,ty,p,af,g⟩ ρ s (.pointer (some (a.add (m.toNat*K)))):=
 Fo (sm:=Instr.indexAt t (ρ x) (ρ y)) V (by
  rw [Y,Z];unfold Instr.indexAt
  simp only [asIntOf,bind,Sem.bind,pure]
  refine As (x:=underlying t) _ (Cg O ?_)
  simp only [Sem.bind]
  refine As (x:=underlying t) _ (Cg O ?_)
  simp only [Sem.bind,h,and_self,if_true]
  refine As (x:=Go.sizeOf e) _ (EJ U ?_)
  exact⟨rfl,rfl⟩)
theorem QT{a:Addr}{l K:Nat}(O:P.underlying t=some (.array l e))(U:Bj P e=some K)(Y:ρ x= .pointer (some a))(Z:ρ y= .int kd m)(h:0<=m/\m<l):
  Yl P ⟨d,.indexAddr t x y,ty,p,af,g⟩ ρ s (.pointer (some (a.add (m.toNat*K)))):=
 Fo (sm:=Instr.indexAt t (ρ x) (ρ y)) V (by
  rw [Y,Z];unfold Instr.indexAt
  simp only [asIntOf,bind,Sem.bind,pure]
  refine As (x:=underlying t) _ (Cg O ?_)
  simp only [Sem.bind,Instr.sureAddr,pure]
  refine As (x:=underlying t) _ (Cg O ?_)
  simp only [Sem.bind,h,and_self,if_true]
  refine As (x:=Go.sizeOf e) _ (EJ U ?_)
  exact⟨rfl,rfl⟩)
end
variable {ops:Ao_}{rest:List Nat}
section
variable {b:Frame}{n:Nat}
variable {i:Nat}{x:Operand}{v:Value}
theorem I0{cells:Av_}{Q:Addr->St->Prop}{X:Halt->St->Prop}(K:Nd E H B)(k:∀r,Nd E H (B++ [(r,.cells cells e (0,0))])->Q ⟨r,0,none⟩ (mk E H (B++ [(r,.cells cells e (0,0))]))):lp P (newRow e cells) (mk E H B) Q X:=by
 simp only [newRow,newObj,bind,Sem.bind,lp,pure];refine⟨V,λr O U=>?_⟩;obtain⟨Y,Z⟩:=Jz O U (.cells cells e (0,0)) K;rw [Z];exact k r Y
theorem JL.alloc{z:Value}(K:ops[i]? =some ⟨d,.alloc e,ty,p,af,g⟩)(hw:AM L ops ⟨d,.alloc e,ty,p,af,g⟩=some true)(O:BH b n ⟨d,.alloc e,ty,p,af,g⟩=true)(U:Nd E H B)(Y:zeroOf P e=some z)
  (h:∀r,Nd E H (B++ [(r,.cells z.cells e (0,0))])->JL J Q b n (Au L d (.pointer (some ⟨r,0,none⟩))) ds (.inRegion ops rest::k) cs (mk E H (B++ [(r,.cells z.cells e (0,0))]))):
  JL J Q b n L ds (.inRegion ops (i::rest)::k) cs (mk E H B):=
 JL.op K hw O λρ _=>by
  show lp P (do pure (Next.value (← Instr.alloc e true (.tuple #[])))) _ _ _
  refine As _ _ ?_
  unfold Instr.alloc
  refine As _ _ (HA Y ?_)
  refine As _ _ (I0 U λr Z=>?_)
  exact h r Z
theorem JL.box(K:ops[i]? =some ⟨d,.box e x,ty,p,af,g⟩)(hw:AM L ops ⟨d,.box e x,ty,p,af,g⟩=some true)(O:BH b n ⟨d,.box e x,ty,p,af,g⟩=true)(U:Nd E H B)(Y:ev L x=some v)
  (h:∀r,Nd E H (B++ [(r,.cells v.cells e (0,0))])->JL J Q b n (Au L d (.pointer (some ⟨r,0,none⟩))) ds (.inRegion ops rest::k) cs (mk E H (B++ [(r,.cells v.cells e (0,0))]))):
  JL J Q b n L ds (.inRegion ops (i::rest)::k) cs (mk E H B):=
 JL.op K hw O λρ Z=>by
  show lp P (do pure (Next.value (← Instr.box e (ρ x)))) _ _ _
  rw [Z x v Y]
  refine As _ _ ?_
  unfold Instr.box
  refine As _ _ (I0 U λr ac=>?_)
  exact h r ac
def A4(c:Av_)(off:Nat):Lv_->Av_
 | []=>c
 | v::vs=>A4 (c.setIfInBounds off v) (off+1) vs
theorem LC(c:Av_)(off:Nat)(vs:Lv_):(A4 c off vs).size=c.size:=by
 induction vs generalizing c off with
 | nil=>rfl
 | cons v vs K=>simp [A4,K]
theorem MJ{bk:Nat}{Q:Unit->St->Prop}{X:Halt->St->Prop}{pl off:Nat}{sp:Option Nat}:∀(vs:Lv_) (j:Nat) (c:Av_) (B:List (Nat×Obj)),(∀v∈vs,CJ v=true)->Nd E H B->B[pl]? =some (bk,.cells c e (0,0))->off+j+vs.length<=c.size->(sp=none∨0<j)->
  (∀B',B'=B.set pl (bk,.cells (A4 c (off+j) vs) e (0,0))->Nd E H B'->Q () (mk E H B'))->lp P (storeCells ⟨bk,off,sp⟩ vs j) (mk E H B) Q X
 | [],j,c,B,_,O,K,_,_,k=>by
  simp only [storeCells,lp,pure]
  refine k B ?_ O
  simp only [A4]
  exact(List.ext_getElem? λi=>by
   by_cases hi:pl=i
   ·subst hi
    obtain⟨Z,ac⟩:=List.getElem?_eq_some_iff.1 K
    simp [Z,ac]
   ·simp [hi])
 | v::vs,j,c,B,U,O,K,hle,Y,k=>by
  simp only [storeCells,List.length_cons] at*
  have ag:off+j<c.size:=by omega
  have al:(Addr.add ⟨bk,off,sp⟩ j)=⟨bk,off+j,none⟩:=by
   unfold Addr.add;split
   ·rename_i am;subst am;rcases Y with rfl | Y
    ·rfl
    ·omega
   ·rfl
  have ap:(cellAt (.cells c e (0,0)) ⟨bk,off+j,none⟩).isSome=true:=by simp [cellAt,ag]
  refine As (x:=store (Addr.add ⟨bk,off,sp⟩ j) v) _ ?_;rw [al];refine⟨V,U v (by simp),_,I3 O K,ap,by simp [frozenAt],?_⟩;simp only [lp];have aq:Kn (.cells c e (0,0)) ⟨bk,off+j,none⟩ v= .cells (c.setIfInBounds (off+j) v) e (0,0):=by simp [Kn]
  rw [aq,ai O K];have aw:(B.set pl (bk,.cells (c.setIfInBounds (off+j) v) e (0,0)))[pl]? =some (bk,.cells (c.setIfInBounds (off+j) v) e (0,0)):=by
   have:pl<B.length:=(List.getElem?_eq_some_iff.1 K).1;simp [this]
  refine MJ vs (j+1) _ _ (λu hu=>U u (List.mem_cons_of_mem _ hu)) (O.set K) aw (by simp;omega) (.inr (by omega)) λa0 e2 a1=>k a0 ?_ a1;rw [e2,List.set_set];simp only [A4]
  rfl
theorem Ou{bk off pl:Nat}{c:Av_}{Q:Unit->St->Prop}{X:Halt->St->Prop}(K:Bj P t=some v.cells.size)(O:∀u∈v.cells.toList,CJ u=true)(U:Nd E H B)(Y:B[pl]? =some (bk,.cells c e (0,0)))(hle:off+v.cells.size<=c.size)
  (k:Nd E H (B.set pl (bk,.cells (A4 c off v.cells.toList) e (0,0)))->Q () (mk E H (B.set pl (bk,.cells (A4 c off v.cells.toList) e (0,0))))):lp P (storeVar t ⟨bk,off,none⟩ v) (mk E H B) Q X:=by
 unfold storeVar;refine As _ _ (EJ K ?_);simp only [ne_eq,not_true_eq_false,if_false];refine MJ v.cells.toList 0 c B O U Y (by simpa using hle) (.inl V) λB' e Z=>?_;subst e;exact k Z
theorem JL.store{bk off:Nat}{c:Av_}(pl:Nat)(O:ops[i]? =some ⟨d,.store t x y,ty,p,af,g⟩)(hw:AM L ops ⟨d,.store t x y,ty,p,af,g⟩=some true)(U:BH b n ⟨d,.store t x y,ty,p,af,g⟩=true)(Y:Nd E H B)
  (Z:ev L x=some (.pointer (some ⟨bk,off,none⟩))) (ac:ev L y=some v) (ag:Bj P t=some v.cells.size) (al:∀u∈v.cells.toList,CJ u=true) (am:B[pl]? =some (bk,.cells c e (0,0))) (hle:off+v.cells.size<=c.size)
  (h:Nd E H (B.set pl (bk,.cells (A4 c off v.cells.toList) e (0,0)))->JL J Q b n (Au L d undef) ds (.inRegion ops rest::k) cs (mk E H (B.set pl (bk,.cells (A4 c off v.cells.toList) e (0,0))))):
  JL J Q b n L ds (.inRegion ops (i::rest)::k) cs (mk E H B):=
 JL.op O hw U λρ K=>by
  show lp P (do Instr.storeAt t (ρ x) (ρ y);pure Next.skip) _ _ _
  rw [K x _ Z,K y _ ac]
  refine As _ _ ?_
  unfold Instr.storeAt
  simp only [Instr.sureAddr,bind,Sem.bind,pure]
  exact Ou ag al Y am hle λap=>h ap
end
def FJ(P:Program)(t:TypeId):Option Nat:=(P.info? t).map (·.bytes)
section
variable {b:Frame}{n:Nat}
variable {i:Nat}{x:Operand}{v:Value}
theorem Kc{inf:TypeInfo}{Q:TypeInfo->St->Prop}{X:Halt->St->Prop}(h:P.info? t=some inf)(k:Q inf s):lp P (typeInfo t) s Q X:=by
 simp only [typeInfo,bind,Sem.bind,program,lp,h];exact k
theorem OH{K:Nat}(h:FJ P t=some K):∃inf,P.info? t=some inf/\inf.bytes=K:=by
 unfold FJ at h;cases hi:P.info? t with
 | none=>rw [hi] at h;cases h
 | some i=>rw [hi] at h;simp at h;exact⟨i,rfl,h⟩
theorem I4{β:Type}{z y:Nat}{code:BoundsCode}{f:Nat->Sem β}{K:β->St->Prop}{X:Halt->St->Prop}(Y:z<=y)(O:lp P (f z) s K X):lp P (Instr.sliceBound (.int .i64 z) y code>>=f) s K X:=by
 refine As _ _ ?_;unfold Instr.sliceBound;have U:(0:Int)<=(z:Int)/\(z:Int)<=(y:Int):=⟨by omega,by omega⟩;simp only [asIntOf,bind,Sem.bind,pure];rw [if_pos U];simpa [lp] using O
theorem H3{α β:Type}(a:α)(f:α->Sem β):((pure a:Sem α)>>=f)=f a:=rfl
theorem bm{l c:Nat}{X:Halt->St->Prop}:lp P (Instr.sliceBounds true l c none none none) s (λr s'=>r=(0,l,c)/\s'=s) X:=by
 unfold Instr.sliceBounds;exact⟨V,V⟩
theorem bL{l c:Nat}{lo:Nat}(K:lo<=l){X:Halt->St->Prop}:lp P (Instr.sliceBounds true l c (some (.int .i64 lo)) none none) s (λr s'=>r=(lo,l,c)/\s'=s) X:=by
 simp only [Instr.sliceBounds,if_true,Option.isSome_none,Option.isSome_some,Bool.false_eq_true,if_false,H3];exact I4 K ⟨V,V⟩
theorem aY{l c:Nat}{hi:Nat}(hh:hi<=c){X:Halt->St->Prop}:lp P (Instr.sliceBounds true l c none (some (.int .i64 hi)) none) s (λr s'=>r=(0,hi,c)/\s'=s) X:=by
 simp only [Instr.sliceBounds,if_true,Option.isSome_none,Option.isSome_some,Bool.false_eq_true,if_false,H3];exact I4 hh ⟨V,V⟩
theorem bY{l c:Nat}{lo hi:Nat}(hh:hi<=c)(K:lo<=hi){X:Halt->St->Prop}:lp P (Instr.sliceBounds true l c (some (.int .i64 lo)) (some (.int .i64 hi)) none) s (λr s'=>r=(lo,hi,c)/\s'=s) X:=by
 have e:Instr.sliceBounds true l c (some (.int .i64 lo)) (some (.int .i64 hi)) none=(Instr.sliceBound (.int .i64 hi) c .sliceAcap>>=λh=>Instr.sliceBound (.int .i64 lo) h .sliceB>>=λl=>pure (l,h,c)):=by
  simp [Instr.sliceBounds]
 rw [e];exact I4 hh (I4 K ⟨V,V⟩)
theorem aZ{l c:Nat}{hi mx:Nat}(hm:mx<=c)(hh:hi<=mx){X:Halt->St->Prop}:lp P (Instr.sliceBounds true l c none (some (.int .i64 hi)) (some (.int .i64 mx))) s (λr s'=>r=(0,hi,mx)/\s'=s) X:=by
 simp only [Instr.sliceBounds,if_true,Option.isSome_none,Option.isSome_some,Bool.false_eq_true,if_false,H3];exact I4 hm (I4 hh ⟨V,V⟩)
theorem bn{l c:Nat}{lo hi mx:Nat}(hm:mx<=c)(hh:hi<=mx)(K:lo<=hi){X:Halt->St->Prop}:lp P (Instr.sliceBounds true l c (some (.int .i64 lo)) (some (.int .i64 hi)) (some (.int .i64 mx))) s (λr s'=>r=(lo,hi,mx)/\s'=s) X:=by
 simp only [Instr.sliceBounds,if_true,Option.isSome_none,Option.isSome_some,Bool.false_eq_true,if_false,H3];exact I4 hm (I4 hh (I4 K ⟨V,V⟩))
theorem Ww{l c lo hi mx:Nat}{Y Z ac:Option Value}{X:Halt->St->Prop}
  (O:match ac with | some w=>w= .int .i64 mx | none=>mx=c) (K:match Z with | some w=>w= .int .i64 hi | none=>hi=l/\ac=none) (U:match Y with | some w=>w= .int .i64 lo | none=>lo=0) (hm:mx<=c) (hh:hi<=mx) (ag:lo<=hi):
  lp P (Instr.sliceBounds true l c Y Z ac) s (λr s'=>r=(lo,hi,mx)/\s'=s) X:=by
 cases ac with
 | none=>
  cases Z with
  | none=>
   cases Y with
   | none=>obtain rfl:mx=c:=O;obtain rfl:hi=l:=K.1;obtain rfl:lo=0:=U;exact bm
   | some w=>obtain rfl:mx=c:=O;obtain rfl:hi=l:=K.1;obtain rfl:w= .int .i64 lo:=U;exact bL ag
  | some w=>
   cases Y with
   | none=>obtain rfl:mx=c:=O;obtain rfl:w= .int .i64 hi:=K;obtain rfl:lo=0:=U;exact aY hh
   | some w'=>obtain rfl:mx=c:=O;obtain rfl:w= .int .i64 hi:=K;obtain rfl:w'= .int .i64 lo:=U;exact bY hh ag
 | some w0=>
  cases Z with
  | none=>exact absurd K.2 (λh=>by cases h)
  | some w=>
   cases Y with
   | none=>obtain rfl:w0= .int .i64 mx:=O;obtain rfl:w= .int .i64 hi:=K;obtain rfl:lo=0:=U;exact aZ hm hh
   | some w'=>obtain rfl:w0= .int .i64 mx:=O;obtain rfl:w= .int .i64 hi:=K;obtain rfl:w'= .int .i64 lo:=U;exact bn hm hh ag
theorem WU{a:Option Addr}{l c O lo hi mx:Nat}{U Y K:Option Value}{Q:Value->St->Prop}{X:Halt->St->Prop}(Z:P.underlying t=some (.slice e))(ac:Bj P e=some O)
  (ag:match K with | some w=>w= .int .i64 mx | none=>mx=c) (al:match Y with | some w=>w= .int .i64 hi | none=>hi=l/\K=none) (am:match U with | some w=>w= .int .i64 lo | none=>lo=0) (hm:mx<=c) (hh:hi<=mx) (ap:lo<=hi)
  (k:Q (.slice (if mx=lo then a else a.map (·.add (lo*O))) (hi - lo) (mx - lo)) s):lp P (Instr.slice t (.slice a l c) U Y K) s Q X:=by
 unfold Instr.slice;refine As _ _ (Cg Z ?_);have hb:=Ww (P:=P) (s:=s) (X:=X) ag al am hm hh ap;refine As _ _ (DG _ hb ?_ (λ_ _ h=>h));rintro r s' ⟨rfl,rfl⟩;exact As _ _ (EJ ac k)
theorem Yl.slice{ρ:Operand->Value}{a:Option Addr}{l c O lo hi mx:Nat}{olo ohi omx:Option Operand}(U:P.underlying t=some (.slice e))(Y:Bj P e=some O)(Z:ρ x= .slice a l c)
  (ac:match omx with | some w=>ρ w= .int .i64 mx | none=>mx=c) (K:match ohi with | some w=>ρ w= .int .i64 hi | none=>hi=l/\omx=none) (ag:match olo with | some w=>ρ w= .int .i64 lo | none=>lo=0) (hm:mx<=c) (hh:hi<=mx) (al:lo<=hi):
  Yl P ⟨d,.slice t x olo ohi omx,ty,p,af,g⟩ ρ s (.slice (if mx=lo then a else a.map (·.add (lo*O))) (hi - lo) (mx - lo)):=
 Fo (sm:=Instr.sliceAt t (ρ x) (olo.map ρ) (ohi.map ρ) (omx.map ρ)) V (by
  rw [Z];unfold Instr.sliceAt
  refine As _ _ (Cg U ?_)
  refine WU U Y (mx:=mx) (hi:=hi) (lo:=lo) ?_ ?_ ?_ hm hh al ⟨rfl,rfl⟩
  ·cases omx <;> exact ac
  ·cases ohi with
   | none=>exact⟨K.1,by rw [K.2];rfl⟩
   | some w=>exact K
  ·cases olo <;> exact ag)
def HJ(s:St)(v:Value)(K:Nat)(xs:Lv_):Prop:=
 match v with
 | .slice (some a) l c=>(a.spot=none∨l=0)/\xs.length=l*K/\l<=c/\∀j w,xs[j]? =some w->s.cell? ⟨a.block,a.off+j,none⟩=some w
 | .slice none l _=>l=0/\xs= []
 | _=>False
theorem Dw{a:Addr}(h:a.spot=none)(j:Nat):a.add j=⟨a.block,a.off+j,none⟩:=by
 unfold Addr.add;obtain⟨b,o,sp⟩:=a;simp only at h;subst h;split
 ·rename_i e;subst e;rfl
 ·rfl
theorem Ka{Y l:Nat}{xs:Lv_}{Q:Av_->St->Prop}{X:Halt->St->Prop}(Z:∃a c,v= .slice a l c)(h:HJ s v Y xs)(k:Q xs.toArray s):lp P (Builtin.firstCells Y l v) s Q X:=by
 obtain⟨a,c,rfl⟩:=Z;cases a with
 | none=>
  obtain⟨K,rfl⟩:=h;exact k
 | some a=>
  obtain⟨K,O,ag,ac⟩:=h;refine Qw O.symm (λj w U=>?_) k;rcases K with K | K
  ·rw [Dw K];exact ac j w U
  ·rw [K,Nat.zero_mul] at O;rw [List.eq_nil_of_length_eq_zero O] at U;cases U
theorem VL(nl:Nat):∀(r c:Nat),Builtin.growBy nl r c<=max c (2*nl+768):=by
 intro r
 induction r with
 | zero=>intro c;simp [Builtin.growBy];omega
 | succ r K=>
  intro c;simp only [Builtin.growBy];split
  ·omega
  ·rename_i h;have:=K (c+(c+768) / 4);omega
theorem QM{need old:Nat}(h:old<need):Builtin.nextslicecap need old<=2*need+768:=by
 unfold Builtin.nextslicecap;split
 ·omega
 ·split
  ·omega
  ·have:=VL need 4 old;omega
theorem Qj(z:Av_)(m:Nat):(Builtin.zeroCells z m).size=m*z.size:=by simp [Builtin.zeroCells]
def NZ(B:List (Nat×Obj))(pl:Nat)(e:TypeId)(K:Nat)(a:Option Addr)(l c:Nat)(xs:Lv_):Prop:=
 (a=none/\l=0/\c=0/\xs= [])∨∃bk f,a=some ⟨bk,0,none⟩/\B[pl]? =some (bk,.cells f e (0,0))/\f.size=c*K/\l<=c/\xs=f.toList.take (l*K)
theorem Oq(c:Av_)(off:Nat)(vs:Lv_)(h:off+vs.length<=c.size):(A4 c off vs).toList.take (off+vs.length)=c.toList.take off++vs:=by
 induction vs generalizing c off with
 | nil=>simp [A4]
 | cons v vs O=>
  simp only [A4,List.length_cons] at*;have:=O (c.setIfInBounds off v) (off+1) (by simp;omega);rw [show off+(vs.length+1)=off+1+vs.length from by omega,this];have K:off<c.toList.length:=by simp;omega
  rw [Array.toList_setIfInBounds,List.take_add_one];have U:(c.toList.set off v)[off]? =some v:=by simp at K;simp [K]
  rw [U];simp [List.take_set_of_le]
theorem OF{ats:Array TypeId}{a:Option Addr}{l c K Y m cx:Nat}{ax:Option Addr}{xs ys:Lv_}{z:Value}{Q:Value->St->Prop}{X:Halt->St->Prop}{pl:Nat}
  (bb:ats[0]? =some t) {t1 be:TypeId} (bi:ats[1]? =some t1) (bo:P.underlying t1=some (.slice be)) (bv:P.underlying t=some (.slice e)) (bw:Bj P e=some K) (hb:FJ P e=some Y) (b0:zeroOf P e=some z) (b1:z.cells.size=K)
  (aq:Nd E H B) (aw:NZ B pl e K a l c xs)
  (am:HJ (mk E H B) (.slice ax m cx) K ys) (b2:∀w∈ys,CJ w=true) (ct:0<Y) (cw:l+m<=2 ^ 40) (b3:Y<=64)
  (b4:∀bk f O,a=some ⟨bk,0,none⟩->B[pl]? =some (bk,.cells f e (0,0))->O=A4 f (l*K) ys->l+m<=c->O.size=c*K->O.toList.take ((l+m)*K)=xs++ys->Nd E H (B.set pl (bk,.cells O e (0,0)))->Q (.slice a (l+m) c) (mk E H (B.set pl (bk,.cells O e (0,0)))))
  (b5:a=none->m=0->Q (.slice none 0 0) (mk E H B))
  (b6:∀r O Z,l+m<=Z->O.size=Z*K->O.toList.take ((l+m)*K)=xs++ys->Nd E H (B++ [(r,.cells O e (0,0))])->Q (.slice (some ⟨r,0,none⟩) (l+m) Z) (mk E H (B++ [(r,.cells O e (0,0))]))):
  lp P (Builtin.append_ ats ty #[.slice a l c,.slice ax m cx]) (mk E H B) Q X:=by
 unfold Builtin.append_;simp only [bb,bi,List.getElem?_toArray,List.getElem?_cons_zero,List.getElem?_cons_succ];refine As _ _ (Cg bv ?_);refine As _ _ (EJ bw ?_);refine As _ _ (Cg bo ?_);simp only [H3,Bool.false_eq_true,if_false,Builtin.lenOf,Bool.not_false,if_true];have ac:ys.length=m*K:=by
  cases ax with
  | none=>obtain⟨a0,a1⟩:=am;subst a0 a1;simp
  | some ad=>exact am.2.1
 have a2:∃(ca:Option Addr) (Z:Nat),HJ (mk E H B) (.slice a l c) K xs/\ca=a/\Z=c:=by
  refine⟨a,c,?_,V,V⟩;rcases aw with⟨rfl,rfl,rfl,rfl⟩ | ⟨bk,f,rfl,ag,U,al,rfl⟩
  ·exact⟨V,V⟩
  ·have hle:l*K<=f.size:=by rw [U];exact Nat.mul_le_mul_right _ al
   refine⟨.inl V,by simp [Nat.min_eq_left hle],al,λj w ap=>?_⟩;refine Rq aq ag ?_;simp only [Nat.zero_add];rw [List.getElem?_take] at ap;split at ap
   ·simpa using ap
   ·cases ap
 obtain⟨_,_,a2,_,_⟩:=a2;have a3:xs.length=l*K:=by
  rcases aw with⟨rfl,rfl,rfl,rfl⟩ | ⟨bk,f,rfl,ag,U,al,rfl⟩
  ·simp
  ·have hle:l*K<=f.size:=by rw [U];exact Nat.mul_le_mul_right _ al
   simp [Nat.min_eq_left hle]
 split
 ·rename_i a8;refine As _ _ (Ka ⟨ax,cx,V⟩ am ?_);rcases aw with⟨rfl,rfl,rfl,rfl⟩ | ⟨bk,f,rfl,ag,U,al,rfl⟩
  ·obtain rfl:m=0:=by omega
   simp only;exact b5 V V
  ·simp only;have hle:l*K+ys.length<=f.size:=by rw [ac,U,← Nat.add_mul];exact Nat.mul_le_mul_right _ a8
   have cc:(Addr.add ⟨bk,0,none⟩ (l*K))=⟨bk,l*K,none⟩:=by rw [Dw rfl];simp
   rw [cc];refine As _ _ (MJ (pl:=pl) ys.toArray.toList 0 f B (by simpa using b2) aq ag (by simpa using hle) (.inl V) λB' a9 a4=>?_);simp only [Nat.add_zero] at a9;subst a9;refine b4 bk f _ V ag V a8 (by rw [LC,U]) ?_ a4;have:=Oq f (l*K) ys hle;rw [ac,← Nat.add_mul] at this;exact this
 ·rename_i cy;have a0:¬(((l+m:Nat):Int)>IntKind.i64.max/\(False∨Y=0)):=by rintro⟨_,h | h⟩ <;> omega
  have a1:¬(Builtin.nextslicecap (l+m) c*Y>2 ^ 48):=by
   have:=QM (need:=l+m) (old:=c) (by omega);have cJ:Builtin.nextslicecap (l+m) c*Y<=(2*(l+m)+768)*64:=Nat.mul_le_mul this b3;omega
  obtain⟨inf,a5,a6⟩:=OH hb;refine As _ _ (Kc a5 ?_);rw [a6,if_neg a0];refine As _ _ (Kc a5 ?_);rw [a6,if_neg a1];refine As _ _ ?_;simp only [choose,lp,Question.forced,Bool.false_eq_true,if_false];refine⟨V,λce=>?_⟩;generalize ci:(Question.appendCap (l+m) c e).cut ce=a7;have co:l+m<=a7:=by rw [← ci];simp [Question.cut]
  refine As _ _ (Kc a5 ?_);rw [a6];have cp:∀{α:Type} {f:Unit->Sem α} {Q:α->St->Prop},lp P (f ()) (mk E H B) Q X->lp P (askRoom (a7*Y)>>=f) (mk E H B) Q X:=by
   intro α f Q U;refine As _ _ ?_;unfold askRoom;split
   ·exact⟨.inl ⟨V,V⟩,U⟩
   ·exact U
  refine cp (As _ _ (Ka ⟨a,c,V⟩ a2 ?_));refine As _ _ (Ka ⟨ax,cx,V⟩ am ?_);refine As _ _ (HA b0 ?_);refine As _ _ (I0 aq λr a4=>?_);refine b6 r _ a7 co ?_ ?_ a4
  ·simp only [Array.size_append,List.size_toArray,Qj,b1,a3,ac];rw [← Nat.add_mul,← Nat.add_mul];congr 1;omega
  ·simp only [Array.toList_append];rw [List.take_append_of_le_length (by simp [a3,ac,Nat.add_mul])];rw [List.take_of_length_le (by simp [a3,ac,Nat.add_mul])]
end
theorem Oa{P:Program}{α:Type}(x:Sem α):∀{s:St} {Q:α->St->Prop} {X:Halt->St->Prop},lp P x s Q X->lp P x s (λa s'=>Q a s'/\s'.E=s.E/\s'.q=s.q) X:=by
 induction x with
 | pure a=>intro s Q X h;exact⟨h,rfl,rfl⟩
 | load m a k K=>intro s Q X h;obtain⟨O,v,U,Y⟩:=h;exact⟨O,v,U,K _ Y⟩
 | store m a v k K=>intro s Q X h;obtain⟨O,U,o,Y,ac,ag,al⟩:=h;exact⟨O,U,o,Y,ac,ag,K al⟩
 | new o k K=>intro s Q X h;exact⟨h.1,λr O U=>K _ (h.2 r O U)⟩
 | shape r k K=>intro s Q X h;obtain⟨o,O,U⟩:=h;exact⟨o,O,K _ U⟩
 | freeze a n k K=>intro s Q X h;exact h
 | frozen a k K=>intro s Q X h;obtain⟨o,O,U⟩:=h;exact⟨o,O,K _ U⟩
 | getObj r k K=>intro s Q X h;obtain⟨o,O,U,Y⟩:=h;exact⟨o,O,U,K _ Y⟩
 | setObj r o k K=>intro s Q X h;obtain⟨O,U,Y⟩:=h;exact⟨O,U,K Y⟩
 | choose q k K=>
  intro s Q X h;simp only [lp] at h ⊢;split
  ·rename_i Z;rw [if_pos Z] at h;exact K _ h
  ·rename_i Z;rw [if_neg Z] at h;exact⟨h.1,λt=>K _ (h.2 t)⟩
 | sys c k K=>intro s Q X h;exact h
 | program k K=>intro s Q X h;exact K _ h
 | mark m k K=>intro s Q X h;exact⟨h.1,K h.2⟩
 | halt h=>intro s Q X h;exact h
def Bl(D:Nat->Bool)(s:St):St:=⟨λb=>if D b then s.get b else s.E b,λb=>if D b then none else s.H b,s.q⟩
def Ci(D:Nat->Bool)(s s':St):St:=⟨λb=>if D b then s.E b else s'.E b,λb=>if D b then s.H b else s'.H b,s'.q⟩
theorem KO(D:Nat->Bool)(s:St):Ci D s (Bl D s)=s:=by
 obtain⟨E,H,q⟩:=s;unfold Ci Bl;congr 1
 ·funext b;by_cases h:D b <;> simp [h]
 ·funext b;by_cases h:D b <;> simp [h]
theorem Xe{D:Nat->Bool}{s:St}{w:World}(f:Fits s w):Fits (Bl D s) w where
 e b o h:=by
  by_cases hd:D b
  ·simp [Bl,hd] at h;exact f.get h
  ·simp [Bl,hd] at h;exact f.e b o h
 h b o h:=by
  by_cases hd:D b
  ·simp [Bl,hd] at h
  ·simp [Bl,hd] at h;exact f.h b o h
 d b h:=by
  by_cases hd:D b
  ·simp [Bl,hd]
  ·simp [Bl,hd] at h ⊢;exact f.d b h
def Ew{P:Program}(J:Judge P)(f:FuncId)(args:Av_)(s:St)(R:Value->St->Prop):Prop:=
 ∀(Q:Gs_) (c:Frame) (cs:Lf_),(∀v s',R v s'->J.ok Q (G (c.finish v) cs) s')->J.ok Q (G (Frame.enter P f args .normal) (c::cs)) s
theorem Ew.Ah{P:Program}{J:Judge P}{f:FuncId}{args:Av_}{s:St}{R K:Value->St->Prop}(h:Ew J f args s R)(O:∀v s',R v s'->K v s'):Ew J f args s K:=
 λQ c cs U=>h Q c cs λv s' Y=>U v s' (O v s' Y)
section
variable {b:Frame}{n:Nat}
theorem Judge.Si(D:Nat->Bool){T:Av_}{ops:Ao_}{i:Nat}{rest:List Nat}{o:Oper}(Y:ops[i]? =some o)(hw:Region.wanted o (yielded ops T)=true)(a9:b.kind≠ .early)
  (hd:∀c,o.op≠ .defer c) (bb:s.q=false)
  (h:lp P (execOp (Bu T) o) (Bl D s) (λap s'=>upon J Q b T ds ops i rest k cs o.dst ap (Ci D s s')) (λ_ _=>False)):
  J.ok Q (G (fr b T ds (.inRegion ops (i::rest)::k)) cs) s:=by
 refine J.step ⟨V,λw f=>?_,λe=>by subst e;cases bb⟩;have Z:((fr b T ds (.inRegion ops (i::rest)::k)).kind==CallKind.early)=false:=by simpa [fr] using a9
 have be:stepG P J.main (G (fr b T ds (.inRegion ops (i::rest)::k)) cs) w=stepG.apply P true (fr b T ds (.inRegion ops (i::rest)::k)) cs none (execOp (Bu T) o) w:=by
  rw [stepG_op Y hw];split
  ·rename_i l c b2 e2;exact absurd e2 (hd c)
  ·rfl
 obtain⟨ac,aq,aw,bi,O⟩:=M3 _ (Oa _ h) (Xe (D:=D) f);have a0:=O8 (P:=P) (fn:=b.fn) bi;have a4:=λv=>Gq (b:=b) (ds:=ds) (k:=k) T ops i rest v o Y;have key:∀w',Fits ac w'->Fr (Bl D s) w ac w'->ac.E=(Bl D s).E->Fits (Ci D s ac) w'/\Fr s w (Ci D s ac) w':=by
  intro w' a1 g2 bo;have a5:∀b,D b=true->b<w.heap.size->w'.heap[b]? =w.heap[b]? :=λb hb a2=>g2.keep b a2 (by simp [Bl,hb]);have a6:∀b o,(s.H b=some o∨s.E b=some o)->b<w.heap.size:=λb o Y=>by
   have:=Y.elim (f.h b o) (f.e b o);rcases Nat.lt_or_ge b w.heap.size with a3 | a3
   ·exact a3
   ·simp [Array.getElem?_eq_none a3] at this
  refine⟨⟨λb o hb=>?_,λb o hb=>?_,λb hb=>?_⟩,⟨g2.size,λb a2 hb=>?_,λb hb=>?_,λb o hb=>?_,λb hb=>?_,g2.tape,g2.os,g2.output⟩⟩
  ·by_cases K:D b
   ·simp [Ci,K] at hb;rw [a5 b K (a6 b o (.inr hb))];exact f.e b o hb
   ·simp [Ci,K] at hb;exact a1.e b o hb
  ·by_cases K:D b
   ·simp [Ci,K] at hb;rw [a5 b K (a6 b o (.inl hb))];exact f.h b o hb
   ·simp [Ci,K] at hb;exact a1.h b o hb
  ·by_cases K:D b
   ·simp [Ci,K] at hb ⊢;exact f.d b hb
   ·simp [Ci,K] at hb ⊢;exact a1.d b hb
  ·exact g2.keep b a2 (by by_cases K:D b <;> simp [Bl,K,hb])
  ·by_cases K:D b
   ·simp [Ci,K] at hb;exact .inl hb
   ·simp [Ci,K] at hb;rcases g2.own b hb with q | q
    ·left;simpa [Bl,K] using q
    ·exact .inr q
  ·by_cases K:D b
   ·simp [Ci,K];exact hb
   ·simp only [Ci,K,Bool.false_eq_true,if_false];rw [bo];simp [Bl,K,hb]
  ·by_cases K:D b
   ·simp [Ci,K] at hb;exact .inl hb
   ·simp [Ci,K] at hb;rcases g2.EG b hb with q | q | q
    ·left;simpa [Bl,K] using q
    ·right;left;simpa [Bl,K] using q
    ·exact .inr (.inr q)
 have bv:∀w',(∀e∈seen P b.fn ((execOp (Bu T) o).events P w #[]),Ev (Bl D s) w w' e)->∀e∈seen P b.fn ((execOp (Bu T) o).events P w #[]),Ev s w w' e:=by
  intro w' he e hm;have:=he e hm;have a7:∀{b wr},GN (Bl D s) w w' b wr->GN s w w' b wr:=by
   intro b wr a8;refine⟨a8.1,?_⟩;rcases a8.2 with q | q | ⟨q,q'⟩
   ·left;by_cases K:D b <;> simp [Bl,K] at q;exact q
   ·exact .inr (.inl q)
   ·by_cases K:D b
    ·simp [Bl,K,St.get] at q;by_cases am:s.E b=none
     ·left;intro bw;rw [am,bw] at q;exact q V
     ·exact .inr (.inr ⟨am,q'⟩)
    ·simp [Bl,K] at q;exact .inr (.inr ⟨q,q'⟩)
  unfold Ev at this ⊢;split <;> rename_i b0 <;> simp only [b0] at this
  ·exact⟨this.1,a7 this.2⟩
  ·exact⟨this.1,a7 this.2⟩
  ·trivial
  ·trivial
 rw [be];cases U:(execOp (Bu T) o).run P w with
 | ok ap w'=>
  rw [U] at aq aw O a0;simp only [Kz] at aq aw a0;obtain⟨O,am,_⟩:=O;obtain⟨k1,ag⟩:=key w' aq aw am;have al:=bv w' a0;cases ap with
  | value v=>exact⟨_,_,w',seen P b.fn ((execOp (Bu T) o).events P w #[])++ #[],by simp [stepG.apply,U,Z,GStep.after,G,a4,F0],O,k1,ag,by simpa using al⟩
  | skip=>exact⟨_,_,w',seen P b.fn ((execOp (Bu T) o).events P w #[])++ #[],by simp [stepG.apply,U,Z,GStep.after,G,a4,F0],O,k1,ag,by simpa using al⟩
  | enter g args=>exact⟨_,_,w',seen P b.fn ((execOp (Bu T) o).events P w #[])++ #[],by simp [stepG.apply,U,Z,GStep.after,G,F0,Ic],O,k1,ag,by simpa using al⟩
  | round l g tm as b3=>exact⟨_,_,w',seen P b.fn ((execOp (Bu T) o).events P w #[])++ #[],by simp [stepG.apply,U,Z,GStep.after,G,F0,Ic],O,k1,ag,by simpa using al⟩
  | defer d=>
   have b1:=Gq (b:=b) (ds:=d::ds) (k:=k) T ops i rest undef o Y;exact⟨_,_,w',seen P b.fn ((execOp (Bu T) o).events P w #[])++ #[],by
    rw [← b1];simp [stepG.apply,U,Z,GStep.after,G,F0,Ic];rfl,O,k1,ag,by simpa using al⟩
  | _=>exact O.elim
 | halt x w'=>rw [U] at O;exact O.elim
end
def PZ(m:Nat)(listed:Array Bool):Bool:=(List.range m).all λi=>listed.getD i false
def A8(listed:Array Bool)(i:Nat):Array Bool:=listed.setIfInBounds i true
section
variable (J:Judge P)(Q:Gs_)(b:Frame)(ds:Ld_)(ops:Ao_)(k:Li_)(cs:Lf_)(m:Nat)(D:Nat->Bool)
def JA:Nat->Array Bool->Av_->St->Prop
 | 0,listed,T,s=>Region.ready .any ops listed= []/\J.ok Q (G (fr b T ds (.inRegion ops []::k)) cs) s
 | fuel+1,listed,T,s=>
  (PZ m listed=true/\∀t,J.ok Q (G (fr b T ds (.inRegion ops (Region.linearise.go .any ops (fuel+1) t listed [])::k)) cs) s)∨
  (Region.ready .any ops listed≠ []/\s.q=false/\∀i∈Region.ready .any ops listed,∀o,ops[i]? =some o->(∀c,o.op≠ .defer c)/\
   (Region.wanted o (yielded ops T)=false->JA fuel (A8 listed i) (CC T o.dst undef) s)/\
   (Region.wanted o (yielded ops T)=true->lp P (execOp (Bu T) o) (Bl D s) (λO s'=>match O with
    | .value v=>JA fuel (A8 listed i) (CC T o.dst v) (Ci D s s')
    | .skip=>JA fuel (A8 listed i) (CC T o.dst undef) (Ci D s s')
    | .enter f args=>∃R,Ew J f args (Ci D s s') R/\∀v K,R v K->K.q=false/\(∀x o,(Bl D s).E x=some o->(Bl D K).E x=some o)/\JA fuel (A8 listed i) (CC T o.dst v) K
    | _=>False) (λ_ _=>False)))
variable {J Q b ds ops k cs m D}
theorem Xd(Z:b.kind≠ .early):∀(fuel t:Nat) (listed:Array Bool) (T:Av_) (s:St),JA J Q b ds ops k cs m D fuel listed T s->
  J.ok Q (G (fr b T ds (.inRegion ops (Region.linearise.go .any ops fuel t listed [])::k)) cs) s:=by
 intro fuel
 induction fuel with
 | zero=>intro t listed T s h;simpa [Region.linearise.go] using h.2
 | succ fuel K=>
  intro t listed T s h;rcases h with⟨_,h⟩ | ⟨ac,ag,h⟩
  ·exact h t
  ·obtain⟨i,hi⟩:∃i,(Region.ready .any ops listed)[t % (Region.ready .any ops listed).length]? =some i:=by
    have:0<(Region.ready .any ops listed).length:=List.length_pos_iff.2 ac;exact⟨_,List.getElem?_eq_getElem (Nat.mod_lt _ this)⟩
   have Y:=List.mem_of_getElem? hi;have hgo:Region.linearise.go .any ops (fuel+1) t listed []=i::Region.linearise.go .any ops fuel (t / (Region.ready .any ops listed).length) (A8 listed i) []:=by
    simp only [Region.linearise.go];change (match(Region.ready .any ops listed)[t % (Region.ready .any ops listed).length]? with
     | some i=>Region.linearise.go .any ops fuel (t / (Region.ready .any ops listed).length) (listed.setIfInBounds i true) [i]
     | none=> [].reverse)=_
    rw [hi];simp only;rw [linearise_go_acc];rfl
   rw [hgo];obtain⟨_,o,O,_⟩:=mem_ready.1 Y;obtain⟨hd,al,am⟩:=h i Y o O;cases hw:Region.wanted o (yielded ops T) with
   | false=>exact Judge.unwanted O hw (K _ _ _ _ (al hw))
   | true=>
    refine Judge.Si D O hw Z hd ag (DG _ (am hw) ?_ (λ_ _ h=>h));intro ap s' U;cases ap with
    | value v=>exact K _ _ _ _ U
    | skip=>exact K _ _ _ _ U
    | enter f args=>
     obtain⟨R,aq,aw⟩:=U;refine aq Q _ cs λv a0 a1=>?_;rw [Gq _ _ _ _ _ _ O];exact K _ _ _ _ (aw v a0 a1).2.2
    | _=>exact U.elim
theorem XX{T:Av_}{d:Option Tmp}{v:Value}{x:Operand}(h:∀t,d=some t->x≠ .tmp t):Bu (CC T d v) x=Bu T x:=by
 cases d with
 | none=>rfl
 | some t=>
  cases x with
  | tmp u=>
   have K:t≠u:=λe=>h t rfl (e▸rfl);simp only [CC,Bu,Array.getD_eq_getD_getElem?,Array.getElem?_setIfInBounds_ne K]
  | _=>rfl
theorem H6{T:Av_}{d:Option Tmp}{v:Value}{o:Oper}(K:∀cs b,o.op≠ .select cs b)(h:∀t,d=some t->t ∉ o.looksAt ops):
  execOp (Bu (CC T d v)) o=execOp (Bu T) o/\Region.wanted o (yielded ops (CC T d v))=Region.wanted o (yielded ops T):=by
 refine⟨execOp_congr o K λx O=>XX λt U Y=>h t U ?_,?_⟩
 ·subst Y;exact List.mem_append_left _ (List.mem_filterMap.2 ⟨.tmp t,by simpa using O,V⟩)
 ·have:=wanted_put (ops:=ops) o (⟨T,[]⟩:Act) d v h
  rwa [act_put'] at this
 where
  act_put' {T : Av_} {d : Option Tmp} {v : Value} : (⟨T, []⟩ : Act).put d v = ⟨CC T d v, []⟩ := by cases d <;> rfl
theorem IZ{T:Av_}{d e:Option Tmp}{v u:Value}(h:∀t,d=some t->e≠some t):CC (CC T d v) e u=CC (CC T e u) d v:=by
 cases d with
 | none=>rfl
 | some t=>
  cases e with
  | none=>rfl
  | some K=>
   have O:t≠K:=λq=>h t rfl (q▸rfl);simp [CC,Array.setIfInBounds_comm _ _ O]
theorem QC{D:Nat->Bool}{s s':St}(K:s'.E=(Bl D s).E):(Bl D (Ci D s s')).E=(Bl D s).E:=by
 funext x;by_cases h:D x
 ·simp [Bl,Ci,h,St.get]
 ·have:=congrFun K x;simp [Bl,h] at this;simp [Bl,Ci,h,this]
def IG(ops:Ao_)(listed:Array Bool)(i:Nat)(oi:Oper):Bool:=
 (List.range ops.size).all λj=>j==i || listed.getD j true || match ops[j]? with
  | some K=>(K.after.any λe=>Region.binds .any e&&e.on==i) || oi.apart ops K
  | none=>true
def waits(ops:Ao_):Nat->Nat->Nat->Bool
 | 0,_,_=>false
 | f+1,j,i=>match ops[j]? with
  | some K=>K.after.any λe=>Region.binds .any e&&(e.on==i || waits ops f e.on i)
  | none=>true
def DL(ops:Ao_)(m:Nat):Bool:=
 (List.range ops.size).all λj=>decide (j<m) || (List.range m).all λi=>waits ops ops.size j i
def HI(ops:Ao_)(listed:Array Bool):Bool:=
 (List.range ops.size).all λj=> !listed.getD j false || match ops[j]? with
  | some K=>K.after.all λe=> !Region.binds .any e || listed.getD e.on false
  | none=>true
theorem Oy{listed:Array Bool}(h:HI ops listed=true){j:Nat}{K:Oper}(O:ops[j]? =some K)(U:listed.getD j false=true):∀e∈K.after,Region.binds .any e=true->listed.getD e.on false=true:=by
 intro e he hb;have:=List.all_eq_true.1 h j (List.mem_range.2 (Array.getElem?_eq_some_iff.1 O).1);rw [U,O] at this;simp only [Bool.not_true,Bool.false_or] at this;have:=Array.all_eq_true'.1 this e he;rw [hb] at this;simpa using this
theorem Qx{listed:Array Bool}(Z:HI ops listed=true){i:Nat}:∀(f j:Nat) (O:Oper),ops[j]? =some O->(∀e∈O.after,Region.binds .any e=true->listed.getD e.on false=true)->waits ops f j i=true->listed.getD i false=true∨∃x,ops[x]? =none/\listed.getD x false=true:=by
 intro f
 induction f with
 | zero=>intro j O _ _ h;cases h
 | succ f ac=>
  intro j O ag hd h;simp only [waits,ag] at h;obtain⟨e,he,K⟩:=Array.any_eq_true'.1 h;simp only [Bool.and_eq_true,Bool.or_eq_true,beq_iff_eq] at K;obtain⟨hb,K⟩:=K;have U:=hd e he hb;rcases K with rfl | K
  ·exact .inl U
  ·cases Y:ops[e.on]? with
   | none=>exact .inr ⟨_,Y,U⟩
   | some o=>exact ac e.on o Y (λal am ap=>Oy Z Y U al am ap) K
theorem JA.take{i:Nat}{oi:Oper}{w:Bool}{v:Value}(hi:ops[i]? =some oi)(cM:i<m)(cO:DL ops m=true)(cP:Region.noSelect ops=true)(cQ:∀c,oi.op≠ .defer c):
  ∀(fuel:Nat) (listed:Array Bool) (T:Av_) (s:St),IG ops listed i oi=true->HI ops listed=true->listed.size=ops.size->i∈Region.ready .any ops listed->s.q=false->Region.wanted oi (yielded ops T)=w->
   (w=true->∀s',s'.q=false->(∀x o,(Bl D s).E x=some o->s'.E x=some o)->Yl P oi (Bu T) s' v)->
   JA J Q b ds ops k cs m D fuel (A8 listed i) (CC T oi.dst (if w then v else undef)) s->JA J Q b ds ops k cs m D (fuel+1) listed T s:=by
 have aw:∀(j:Nat) (ag:Oper),ops[j]? =some ag->∀cs b,ag.op≠Op.select cs b:=λj ag h cs b=>Region.noSelect_spec cP j ag cs b h;intro fuel
 induction fuel with
 | zero=>?_
 | succ fuel a5=>?_
 all_goals
  intro listed T s ca cc a0 a6 a7 hw a2 h;refine .inr ⟨λe=>(by rw [e] at a6;cases a6),a7,λj ce ag O=>?_⟩;by_cases aq:j=i
  ·subst aq;obtain rfl:ag=oi:=by rw [hi] at O;exact(Option.some.inj O).symm
   refine⟨cQ,λbw=>?_,λb0=>?_⟩
   ·rw [bw] at hw;subst hw;exact h
   ·rw [b0] at hw;subst hw;refine DG _ (a2 V (Bl D s) a7 λ_ _ h=>h).out ?_ (λ_ _ h=>h);rintro ci s' ⟨rfl,rfl⟩;rw [KO];exact h
  ·
   have co:j∈Region.ready .any ops (A8 listed i):=ready_mono ce aq;obtain⟨al,U,cp,b1⟩:=mem_ready.1 ce;obtain rfl:U=ag:=by rw [O] at cp;exact(Option.some.inj cp).symm
   have b2:=(mem_ready.1 a6).1;have cR:(U.after.any λe=>Region.binds .any e&&e.on==i)=false:=by
    rw [Array.any_eq_false];intro e he K;simp only [Bool.and_eq_true,beq_iff_eq] at K;have:=b1 _ (Array.getElem_mem he) K.1;rw [K.2] at this;have Y:listed.getD i true=listed.getD i false∨listed.size<=i:=by
     rcases Nat.lt_or_ge i listed.size with q | q
     ·left;simp [Array.getD_eq_getD_getElem?,q]
     ·exact .inr q
    rcases Y with Y | Y
    ·rw [b2,this] at Y;cases Y
    ·rw [Array.getD_eq_getD_getElem?,Array.getElem?_eq_none Y] at this;simp at this
   have cT:oi.apart ops U=true:=by
    have a3:j<ops.size:=(Array.getElem?_eq_some_iff.1 O).1;have:=List.all_eq_true.1 ca j (List.mem_range.2 a3);simp only [Bool.or_eq_true,beq_iff_eq] at this;rcases this with(q | q) | q
    ·exact absurd q aq
    ·rw [al] at q;cases q
    ·rw [O] at q;simp only [Bool.or_eq_true] at q;rw [cR] at q;exact q.resolve_left (by simp)
   obtain⟨a1,a8,a9⟩:=Oper.apart_spec cT;obtain⟨cV,p2⟩:=H6 (ops:=ops) (T:=T) (v:=if w then v else undef) (aw j U O) a1
   first
    | exact absurd co (by rw [h.1];simp)
    | (
     rcases h with⟨cW,_⟩ | ⟨c8,_,h⟩
     ·
      exfalso
      have cX:¬j<m:=by
       intro a3
       have:=List.all_eq_true.1 cW j (List.mem_range.2 a3)
       have e2:(A8 listed i).getD j false=listed.getD j false:=getD_set_ne false (Ne.symm aq)
       rw [e2] at this
       have Y:listed.getD j true=true:=by
        rcases Nat.lt_or_ge j listed.size with q | q
        ·simp [Array.getD_eq_getD_getElem?,q] at this ⊢;exact this
        ·simp [Array.getD_eq_getD_getElem?,Array.getElem?_eq_none q] at this
       rw [al] at Y;cases Y
      have a3:j<ops.size:=(Array.getElem?_eq_some_iff.1 O).1
      have:=List.all_eq_true.1 cO j (List.mem_range.2 a3)
      simp only [Bool.or_eq_true,decide_eq_true_eq] at this
      have:=List.all_eq_true.1 (this.resolve_left cX) i (List.mem_range.2 cM)
      rcases Qx cc _ j U O (λe he hb=>b1 e he hb) this with q | ⟨x,Z,ac⟩
      ·have cY:i<listed.size:=by rw [a0];exact(Array.getElem?_eq_some_iff.1 hi).1
       simp [Array.getD_eq_getD_getElem?,cY] at q b2
       rw [b2] at q;cases q
      ·have:¬x<listed.size:=by rw [a0];intro K;simp [K] at Z
       simp [Array.getD_eq_getD_getElem?,this] at ac
     ·obtain⟨hd,bw,b0⟩:=h j co U O
      have bb:A8 (A8 listed i) j=A8 (A8 listed j) i:=by
       unfold A8;exact Array.setIfInBounds_comm _ _ (Ne.symm aq)
      have be:i∈Region.ready .any ops (A8 listed j):=ready_mono a6 (Ne.symm aq)
      have bi:IG ops (A8 listed j) i oi=true:=by
       refine List.all_eq_true.2 λx K=>?_
       have:=List.all_eq_true.1 ca x K
       simp only [Bool.or_eq_true,beq_iff_eq] at this ⊢
       rcases this with(q | q) | q
       ·exact .inl (.inl q)
       ·left;right
        by_cases e:j=x
        ·subst e;rw [al] at q;cases q
        ·rw [A8,getD_set_ne true e];exact q
       ·exact .inr q
      have bo:(A8 listed j).size=ops.size:=by unfold A8;simpa using a0
      have bv:HI ops (A8 listed j)=true:=by
       refine List.all_eq_true.2 λx K=>?_
       cases b3:ops[x]? with
       | none=>simp
       | some cZ=>
        simp only [Bool.or_eq_true,Bool.not_eq_true']
        by_cases e:j=x
        ·subst e
         obtain rfl:cZ=U:=by rw [O] at b3;exact(Option.some.inj b3).symm
         right
         refine Array.all_eq_true'.2 λe he=>?_
         cases hb:Region.binds .any e with
         | false=>simp
         | true=>
          have:=b1 e he hb
          by_cases e2:j=e.on
          ·rw [← e2] at this
           have b4:j<listed.size:=by rw [a0];exact(Array.getElem?_eq_some_iff.1 O).1
           simp [Array.getD_eq_getD_getElem?,b4] at this al
           rw [al] at this;cases this
          ·rw [A8,getD_set_ne false e2];simpa using this
        ·cases ct:(A8 listed j).getD x false with
         | false=>exact .inl rfl
         | true=>
          right
          have c0:listed.getD x false=true:=by rw [A8,getD_set_ne false e] at ct;exact ct
          refine Array.all_eq_true'.2 λb5 he=>?_
          cases hb:Region.binds .any b5 with
          | false=>simp
          | true=>
           have:=Oy cc b3 c0 b5 he hb
           by_cases e2:j=b5.on
           ·rw [← e2] at this
            have b4:j<listed.size:=by rw [a0];exact(Array.getElem?_eq_some_iff.1 O).1
            simp [Array.getD_eq_getD_getElem?,b4] at this al
            rw [al] at this;cases this
           ·rw [A8,getD_set_ne false e2];simpa using this
      refine⟨hd,λc1=>?_,λc2=>?_⟩
      ·have:=bw (by rw [p2];exact c1)
       rw [bb,IZ a8] at this
       obtain⟨Z,ac⟩:=H6 (ops:=ops) (T:=T) (d:=U.dst) (v:=undef) (o:=oi) (aw i oi hi) a9
       exact a5 _ _ _ bi bv bo be a7 (by rw [ac];exact hw) (λam s' c3 b6=>by unfold Yl;rw [Z];exact(a2 am s' c3 b6).out) this
      ·have cw:=Oa _ (b0 (by rw [p2];exact c2))
       rw [cV] at cw
       refine DG _ cw ?_ (λ_ _ h=>h)
       rintro ci s' ⟨K,b6,c4⟩
       have cy:=QC (D:=D) b6
       have cJ:(Ci D s s').q=false:=by show s'.q=false;rw [c4];exact a7
       cases ci with
       | value u=>
        simp only at K ⊢
        rw [bb,IZ a8] at K
        obtain⟨Z,ac⟩:=H6 (ops:=ops) (T:=T) (d:=U.dst) (v:=u) (o:=oi) (aw i oi hi) a9
        exact a5 _ _ _ bi bv bo be cJ (by rw [ac];exact hw) (λam s2 a4 ap=>by unfold Yl;rw [Z];exact(a2 am s2 a4 (by rw [cy] at ap;exact ap)).out) K
       | skip=>
        simp only at K ⊢
        rw [bb,IZ a8] at K
        obtain⟨Z,ac⟩:=H6 (ops:=ops) (T:=T) (d:=U.dst) (v:=undef) (o:=oi) (aw i oi hi) a9
        exact a5 _ _ _ bi bv bo be cJ (by rw [ac];exact hw) (λam s2 a4 ap=>by unfold Yl;rw [Z];exact(a2 am s2 a4 (by rw [cy] at ap;exact ap)).out) K
       | enter f args=>
        obtain⟨R,c5,c6⟩:=K
        refine⟨R,c5,λu c7 hu=>?_⟩
        obtain⟨cK,r1,r2⟩:=c6 u c7 hu
        refine⟨cK,r1,?_⟩
        rw [bb,IZ a8] at r2
        obtain⟨Z,ac⟩:=H6 (ops:=ops) (T:=T) (d:=U.dst) (v:=u) (o:=oi) (aw i oi hi) a9
        exact a5 _ _ _ bi bv bo be cK (by rw [ac];exact hw) (λam s2 a4 ap=>by unfold Yl;rw [Z];exact(a2 am s2 a4 (λx o K=>ap x o (r1 x o K))).out) r2
       | _=>exact K.elim)
end
section
variable (J:Judge P)(Q:Gs_)(b:Frame)(n:Nat)(ds:Ld_)(ops:Ao_)(k:Li_)(cs:Lf_)(m:Nat)(D:Nat->Bool)
def AO(fuel:Nat)(listed:Array Bool)(L:Env)(s:St):Prop:=∀T,Has n L T->JA J Q b ds ops k cs m D fuel listed T s
end
def Df:Nat->Bool:=λ_=>false
variable {D:Nat->Bool}{listed:Array Bool}
section
variable {b:Frame}{n:Nat}{m fuel:Nat}
theorem OR(m:Nat)(D:Nat->Bool){id:Nat}(K:s.q=false)(hm:P.follows .mixedOrders=true)(O:(b.kind != .early)=true)(h:AO J Q b n ds ops k cs m D ops.size (Array.replicate ops.size false) L s):JL J Q b n L ds (.code (.region id ops true)::k) cs s:=
 SJ K hm λt T U=>Xd (by simpa using O) ops.size t _ T s (h T U)
theorem VE{i:Nat}{oi:Oper}{v:Value}(hi:ops[i]? =some oi)(U:decide (i<m)=true)(Y:DL ops m=true)(Z:Region.noSelect ops=true)(O:(!DY oi.op)=true)(ac:IG ops listed i oi=true)(ag:HI ops listed=true)(al:(listed.size==ops.size)=true)(am:(Region.ready .any ops listed).contains i=true)(ap:s.q=false)
  (hw:AM L ops oi=some true) (aq:Bf n oi.dst=true) (aw:∀ρ,EA L ρ->∀s',s'.q=false->(∀x o,(Bl D s).E x=some o->s'.E x=some o)->Yl P oi ρ s' v)
  (h:AO J Q b n ds ops k cs m D fuel (A8 listed i) (Au L oi.dst v) s):AO J Q b n ds ops k cs m D (fuel+1) listed L s:=λT K=>by
 refine JA.take (w:=true) (v:=v) hi (by simpa using U) Y Z (λc a0=>by rw [a0] at O;simp [DY] at O) fuel listed T s ac ag (by simpa using al) (by simpa using am) ap (B3 K hw) (λ_ s' a1 a2=>aw _ K.FX s' a1 a2) ?_
 exact h _ (K.put aq v)
theorem VY{i:Nat}{oi:Oper}(hi:ops[i]? =some oi)(U:decide (i<m)=true)(Y:DL ops m=true)(Z:Region.noSelect ops=true)(K:(!DY oi.op)=true)(ac:IG ops listed i oi=true)(ag:HI ops listed=true)(al:(listed.size==ops.size)=true)(am:(Region.ready .any ops listed).contains i=true)(ap:s.q=false)
  (hw:AM L ops oi=some false) (aq:Bf n oi.dst=true)
  (h:AO J Q b n ds ops k cs m D fuel (A8 listed i) (Au L oi.dst undef) s):AO J Q b n ds ops k cs m D (fuel+1) listed L s:=λT O=>by
 refine JA.take (w:=false) (v:=undef) hi (by simpa using U) Y Z (λc aw=>by rw [aw] at K;simp [DY] at K) fuel listed T s ac ag (by simpa using al) (by simpa using am) ap (B3 O hw) (λe=>by cases e) ?_
 exact h _ (O.put aq undef)
theorem RI(al:s.q=false)(am:Region.ready .any ops listed≠ [])
  (h:∀i∈Region.ready .any ops listed,∀o,ops[i]? =some o->(!DY o.op)=true/\Bf n o.dst=true/\∃w,AM L ops o=some w/\
   (w=false->AO J Q b n ds ops k cs m D fuel (A8 listed i) (Au L o.dst undef) s)/\
   (w=true->∀ρ,EA L ρ->lp P (execOp ρ o) (Bl D s) (λac s'=>match ac with
    | .value v=>AO J Q b n ds ops k cs m D fuel (A8 listed i) (Au L o.dst v) (Ci D s s')
    | .skip=>AO J Q b n ds ops k cs m D fuel (A8 listed i) (Au L o.dst undef) (Ci D s s')
    | .enter f args=>∃R,Ew J f args (Ci D s s') R/\∀v K,R v K->K.q=false/\(∀x o,(Bl D s).E x=some o->(Bl D K).E x=some o)/\AO J Q b n ds ops k cs m D fuel (A8 listed i) (Au L o.dst v) K
    | _=>False) (λ_ _=>False))):
  AO J Q b n ds ops k cs m D (fuel+1) listed L s:=λT O=>by
 refine .inr ⟨am,al,λi hi o ap=>?_⟩
 obtain⟨ag,U,w,hw,aq,aw⟩:=h i hi o ap
 have Y:=B3 O hw
 refine⟨λc a0=>by rw [a0] at ag;simp [DY] at ag,λe=>?_,λe=>?_⟩
 ·rw [e] at Y
  exact aq Y.symm _ (O.put U undef)
 ·rw [e] at Y;refine DG _ (aw Y.symm _ O.FX) ?_ (λ_ _ h=>h);intro ac s' Z;cases ac with
  | value v=>exact Z _ (O.put U v)
  | skip=>exact Z _ (O.put U undef)
  | enter f args=>
   obtain⟨R,a1,a2⟩:=Z;exact⟨R,a1,λv K a3=>let ⟨a,b,c⟩:=a2 v K a3;⟨a,b,c _ (O.put U v)⟩⟩
  | _=>exact Z.elim
theorem AO.one{i:Nat}{o:Oper}(ac:s.q=false)(Y:Region.ready .any ops listed= [i])(hi:ops[i]? =some o)(O:(!DY o.op&&Bf n o.dst)=true)(hw:AM L ops o=some true)
  (h:∀ρ,EA L ρ->lp P (execOp ρ o) (Bl D s) (λag s'=>match ag with
    | .value v=>AO J Q b n ds ops k cs m D fuel (A8 listed i) (Au L o.dst v) (Ci D s s')
    | .skip=>AO J Q b n ds ops k cs m D fuel (A8 listed i) (Au L o.dst undef) (Ci D s s')
    | .enter f args=>∃R,Ew J f args (Ci D s s') R/\∀v K,R v K->K.q=false/\(∀x o,(Bl D s).E x=some o->(Bl D K).E x=some o)/\AO J Q b n ds ops k cs m D fuel (A8 listed i) (Au L o.dst v) K
    | _=>False) (λ_ _=>False)):
  AO J Q b n ds ops k cs m D (fuel+1) listed L s:=by
 simp only [Bool.and_eq_true] at O;refine RI ac (by rw [Y];simp) λj U o' Z=>?_;rw [Y] at U;simp at U;subst U;obtain rfl:o'=o:=by rw [hi] at Z;exact(Option.some.inj Z).symm
 exact⟨O.1,O.2,true,hw,λe=>(by cases e),λ_=>h⟩
theorem AO.call{i:Nat}{d:Option Tmp}{f:FuncId}{args:Array Operand}{ats:Array TypeId}{ty:TypeId}{p:String}{af:Ae_}{g:On_}{vs:Lv_}{R:Value->St->Prop}(U:s.q=false)(Y:Region.ready .any ops listed= [i])
  (Z:ops[i]? =some ⟨d,.call ⟨.value (.func f),args,ats⟩,ty,p,af,g⟩) (ac:Bf n d=true) (hw:AM L ops ⟨d,.call ⟨.value (.func f),args,ats⟩,ty,p,af,g⟩=some true) (hb:Dm P f=true) (ag:evs L args.toList=some vs)
  (al:Ew J f vs.toArray s R) (h:∀v K,R v K->K.q=false/\(∀x o,(Bl D s).E x=some o->(Bl D K).E x=some o)/\AO J Q b n ds ops k cs m D fuel (A8 listed i) (Au L d v) K):
  AO J Q b n ds ops k cs m D (fuel+1) listed L s:=by
 refine AO.one U Y Z (by simp [DY,ac]) hw λρ O=>?_;have am:args.map ρ=vs.toArray:=by
  rw [← FR O ag];apply Array.ext';simp
 have ap:ρ (.func f)= .func (.func f) #[] #[]:=O _ _ V;simp only [execOp,resolve,bind,Sem.bind,Deferred.ofValue,ap,pure,invoke];have e: #[]++args.map ρ++ #[]=vs.toArray:=by rw [am];simp
 rw [e];refine IW hb ?_;rw [KO];exact⟨R,al,h⟩
theorem AO.leaf{tail:List Nat}(K:PZ m listed=true)(hgo:∀t,Region.linearise.go .any ops (fuel+1) t listed []=tail)(h:JL J Q b n L ds (.inRegion ops tail::k) cs s):AO J Q b n ds ops k cs m D (fuel+1) listed L s:=λT O=>
 .inl ⟨K,λt=>by rw [hgo t];exact h T O⟩
theorem AO.fin(K:Region.ready .any ops listed= [])(h:JL J Q b n L ds k cs s):AO J Q b n ds ops k cs m D 0 listed L s:=λT O=>⟨K,JL.done h T O⟩
theorem Zr{listed:Array Bool}{i:Nat}{tail:List Nat}{fuel:Nat}(K:Region.ready .any ops listed= [i])(h:∀t,Region.linearise.go .any ops fuel t (A8 listed i) []=tail)(t:Nat):Region.linearise.go .any ops (fuel+1) t listed []=i::tail:=by
 simp only [Region.linearise.go];change (match(Region.ready .any ops listed)[t % (Region.ready .any ops listed).length]? with
  | some i=>Region.linearise.go .any ops fuel (t / (Region.ready .any ops listed).length) (listed.setIfInBounds i true) [i]
  | none=> [].reverse)=_
 rw [K];simp only [List.length_singleton,Nat.mod_one,List.getElem?_cons_zero];rw [linearise_go_acc];have:=h (t / 1);unfold A8 at this;rw [this];rfl
theorem Xb{i:Nat}{rest:List Nat}{d:Option Tmp}{f:FuncId}{args:Array Operand}{ats:Array TypeId}{ty:TypeId}{p:String}{af:Ae_}{g:On_}{vs:Lv_}{R:Value->St->Prop}
  (U:ops[i]? =some ⟨d,.call ⟨.value (.func f),args,ats⟩,ty,p,af,g⟩) (hw:AM L ops ⟨d,.call ⟨.value (.func f),args,ats⟩,ty,p,af,g⟩=some true) (K:((b.kind != .early)&&Bf n d)=true) (hb:Dm P f=true)
  (Y:evs L args.toList=some vs) (Z:Ew J f vs.toArray s R) (ac:∀v s',R v s'->JL J Q b n (Au L d v) ds (.inRegion ops rest::k) cs s'):
  JL J Q b n L ds (.inRegion ops (i::rest)::k) cs s:=λT O=>by
 simp only [Bool.and_eq_true] at K
 have ag:args.map (Bu T)=vs.toArray:=by
  rw [← FR O.FX Y];apply Array.ext';simp
 refine Judge.oper U (B3 O hw) (by simpa using K.1) (.inr λc al=>by cases al) ?_;have hd:lp P (execOp (Bu T) ⟨d,.call ⟨.value (.func f),args,ats⟩,ty,p,af,g⟩) s (upon J Q b T ds ops i rest k cs d) (Lb J Q b T ds ops i rest k cs):=by
  simp only [execOp,resolve,bind,Sem.bind,Deferred.ofValue,Bu,pure,invoke];have e: #[]++args.map (Bu T)++ #[]=vs.toArray:=by rw [ag];simp
  rw [e];refine IW hb (Z Q _ cs λv s' am=>?_);rw [Gq (o:=⟨d,.call ⟨.value (.func f),args,ats⟩,ty,p,af,g⟩) _ _ _ _ _ U];exact ac v s' am _ (O.put K.2 v)
 exact hd
theorem Ew.enter{f:FuncId}{fn:Func}{c:Code}{vs:Lv_}{R:Value->St->Prop}(Y:P.funcs[f]? =some fn)(hb:fn.body=some c)(al:vs.length<=fn.ntmps)
  (h:∀(Q:Gs_) (K:Frame) (cs:Lf_),(∀v s',R v s'->J.ok Q (G (K.finish v) cs) s')->JL J Q (base f) fn.ntmps (Ga 0 vs) [] [.code c] (K::cs) s):Ew J f vs.toArray s R:=λQ K cs Z=>by
 have he:Frame.enter P f vs.toArray .normal=fr (base f) (vs.toArray++Array.replicate (fn.ntmps - vs.length) undef) [] [.code c]:=by
  simp [Frame.enter,fr,Y,hb,base];rfl
 rw [he];refine h Q K cs Z _ ⟨by simp;omega,λt v ac=>?_⟩;obtain⟨_,O⟩:=Jw ac;have ag:t<vs.length:=by
  rcases Nat.lt_or_ge t vs.length with U | U
  ·exact U
  ·simp at O;have:=(List.getElem?_eq_some_iff.1 O).1;omega
 rw [Array.getD_eq_getD_getElem?,Array.getElem?_append_left (by simpa using ag)];simp at O;simp [O]
end
variable {E':LH}{B0:List (Nat×Obj)}
section
variable {b:Frame}{n:Nat}
theorem R3(O:s.q=false)(h:(∃w,Fits s w)->JL J Q b n L ds k cs s):JL J Q b n L ds k cs s:=λT U=>by
 by_cases K:∃w,Fits s w
 ·exact h K T U
 ·exact J.step ⟨V,λw f=>absurd ⟨w,f⟩ K,λe=>by subst e;cases O⟩
theorem QH{x:Nat}:∀{B:List (Nat×Obj)},(∃p∈B,p.1=x)->Be B H x≠none
 | [],⟨p,K,_⟩=>by cases K
 | (c,o)::B,⟨p,K,e⟩=>by
  simp only [Be]
  split
  ·simp
  ·rename_i O;rcases List.mem_cons.1 K with q | q
   ·subst q;exact absurd e.symm O
   ·exact QH ⟨p,q,e⟩
theorem Nd.grow(U:Nd E H B)(hd:∀x,E' x≠none->Be B H x=none):Nd E' H B:=by
 have key:∀{C:List (Nat×Obj)},Nd E H C->(∀p∈C,p∈B)->Nd E' H C:=by
  intro C
  induction C with
  | nil=>intro _ _;trivial
  | cons p C Y=>
   obtain⟨c,o⟩:=p;intro hC O;refine⟨?_,hC.2.1,hC.2.2.1,Y hC.2.2.2 λp K=>O p (List.mem_cons_of_mem _ K)⟩;cases Z:E' c with
   | none=>rfl
   | some u=>exact absurd (hd c (by rw [Z];simp)) (QH ⟨(c,o),O _ (by simp),rfl⟩)
 exact key U λp K=>K
def Ob(E:LH)(K:Nat)(v:Value)(n:Nat)(xs:Lv_):Prop:=
 ∃a c,v= .slice a n c/\n<=c/\xs.length=n*K/\(n=0∨∃bk off f e fr,a=some ⟨bk,off,none⟩/\E bk=some (.cells f e fr)/\∀j w,xs[j]? =some w->f[off+j]? =some w)
theorem Ob.nil{K:Nat}:Ob E K (.slice none 0 0) 0 []:=⟨none,0,V,Nat.le_refl _,by simp,.inl V⟩
def GS(e:TypeId)(K:Nat)(a:Option Addr)(l c:Nat)(blk:List (Nat×Obj))(xs:Lv_):Prop:=
 (a=none/\l=0/\c=0/\blk= []/\xs= [])∨∃bk f,a=some ⟨bk,0,none⟩/\blk= [(bk,.cells f e (0,0))]/\f.size=c*K/\l<=c/\xs=f.toList.take (l*K)
theorem GS.nil{e:TypeId}{K:Nat}:GS e K none 0 0 [] []:= .inl ⟨V,V,V,V,V⟩
theorem GS.length{e:TypeId}{K:Nat}{a:Option Addr}{l c:Nat}{blk:List (Nat×Obj)}{xs:Lv_}(h:GS e K a l c blk xs):xs.length=l*K:=by
 rcases h with⟨_,rfl,_,_,rfl⟩ | ⟨bk,f,_,_,O,U,rfl⟩
 ·simp
 ·have:l*K<=c*K:=Nat.mul_le_mul_right _ U;simp [O,Nat.min_eq_left this]
theorem UD{t e:TypeId}{v:Value}{Q:Value->St->Prop}{X:Halt->St->Prop}{z:Value}(O:P.underlying t=some (.slice e))(U:Bj P e=some v.cells.size)(Y:zeroOf P e=some z)(am:z.cells.size=v.cells.size)(ap:0<v.cells.size)(aq:v.cells.size<=64)
  (Z:Nd E H B) (k:∀r,Nd E H (B++ [(r,.cells v.cells e (0,0))])->Q (.slice (some ⟨r,0,none⟩) 1 1) (mk E H (B++ [(r,.cells v.cells e (0,0))]))):lp P (Instr.buildSlice t 1 #[(0,v)]) (mk E H B) Q X:=by
 unfold Instr.buildSlice;refine As _ _ (Cg O ?_);refine As _ _ (EJ U ?_);rw [if_neg (by omega),if_neg (by omega)];refine As (x:=zeroValue e) _ (HA Y ?_);have ac:Instr.fill (λi=>some (i*v.cells.size,v.cells.size)) ((Array.range (1*v.cells.size)).map λi=>z.cells[i % z.cells.size]!) [(0,v)]=some v.cells:=by
  simp only [Instr.fill,Array.size_map,Array.size_range,Nat.one_mul,Nat.zero_mul];rw [if_neg (by simp)];congr 1;apply Array.ext_getElem?;intro j;have key:∀(l:Lv_) (st:Nat) (c:Av_),st+l.length<=c.size->∀j,(List.foldl (λcs (p:Value×Nat)=>cs.setIfInBounds (0+p.2) p.1) c (l.zipIdx st))[j]? =if st<=j/\j<st+l.length then l[j - st]? else c[j]? :=by
   intro l
   induction l with
   | nil=>intro st c _ j;simp;omega
   | cons x l ag=>
    intro st c aw j;simp only [List.zipIdx_cons,List.foldl_cons,List.length_cons] at*;rw [ag (st+1) _ (by simp;omega) j];simp only [Nat.zero_add];by_cases al:j=st
    ·subst al;rw [if_neg (by omega),if_pos (by omega)];rw [Nat.sub_self,List.getElem?_cons_zero,Array.getElem?_setIfInBounds_self_of_lt (by omega)]
    ·by_cases e2:st+1<=j/\j<st+1+l.length
     ·rw [if_pos e2,if_pos (by omega)];have:j - st=(j - (st+1))+1:=by omega
      rw [this];simp
     ·rw [if_neg e2,if_neg (by omega),Array.getElem?_setIfInBounds_ne (by omega)]
  have:=key v.cells.toList 0 ((Array.range v.cells.size).map λi=>z.cells[i % z.cells.size]!) (by simp) j;rw [← Array.foldl_toList,Array.toList_zipIdx,this];by_cases K:j<v.cells.size
  ·simp [K]
  ·simp [K]
 rw [H3];simp only [ac];exact As _ _ (I0 Z k)
end
section
variable {b:Frame}{n:Nat}
theorem Lz{ρ:Operand->Value}{d:Option Tmp}{x y:Operand}{ats:Array TypeId}{ty:TypeId}{p:String}{af:Ae_}{g:On_}:
  execOp ρ ⟨d,.call ⟨.builtin .append,#[x,y],ats⟩,ty,p,af,g⟩=(do pure (Next.value (← Builtin.append_ ats ty #[ρ x,ρ y]))):=by
 simp [execOp,resolve,invoke,builtin,bind,Sem.bind,pure]
theorem UH{ρ:Operand->Value}{d:Option Tmp}{y:Operand}{t ty:TypeId}{p:String}{af:Ae_}{g:On_}:
  execOp ρ ⟨d,.buildSlice t 1 #[(0,y)],ty,p,af,g⟩=(do pure (Next.value (← Instr.buildSlice t 1 #[(0,ρ y)]))):=by
 simp [execOp]
theorem aC{L:Env}{d1:Tmp}{w:Value}:ev (Au L (some d1) w) (.tmp d1)=some w:=by
 simp [Au,ev,look]
theorem IB{α:Type}(l r:List α)(x y:α):(l++x::r).set l.length y=l++y::r:=by simp
theorem Kd{e t t1:TypeId}{Y aq l c m:Nat}{a:Option Addr}{blk:List (Nat×Obj)}{xs ys:Lv_}{i:Nat}{rest:List Nat}{d:Option Tmp}{x y:Operand}{ats:Array TypeId}{ty:TypeId}{p:String}{af:Ae_}{g:On_}{z:Value}{ax:Option Addr}{cx:Nat}{B1:List (Nat×Obj)}
  (a8:ops[i]? =some ⟨d,.call ⟨.builtin .append,#[x,y],ats⟩,ty,p,af,g⟩) (hw:AM L ops ⟨d,.call ⟨.builtin .append,#[x,y],ats⟩,ty,p,af,g⟩=some true) (a9:BH b n ⟨d,.call ⟨.builtin .append,#[x,y],ats⟩,ty,p,af,g⟩=true)
  (bb:ev L x=some (.slice a l c)) (be:ev L y=some (.slice ax m cx)) (bi:ats[0]? =some t) (bo:ats[1]? =some t1) (bv:P.underlying t=some (.slice e)) (bw:P.underlying t1=some (.slice e)) (b0:Bj P e=some Y) (hb:FJ P e=some aq) (b1:zeroOf P e=some z) (b2:z.cells.size=Y)
  (b3:0<aq) (b4:aq<=64) (cw:0<m) (b5:l+m<=2 ^ 40) (b6:∀w∈ys,CJ w=true) (aw:GS e Y a l c blk xs) (ca:Nd E H (B0++blk++B1)) (cc:HJ (mk E H (B0++blk++B1)) (.slice ax m cx) Y ys)
  (h:∀a6 ag a0,GS e Y a6 (l+m) ag a0 (xs++ys)->Nd E H (B0++a0)->JL J Q b n (Au L d (.slice a6 (l+m) ag)) ds (.inRegion ops rest::k) cs (mk E H (B0++a0))):
  JL J Q b n L ds (.inRegion ops (i::rest)::k) cs (mk E H (B0++blk++B1)):=by
 refine JL.op a8 hw a9 λρ a7=>?_;rw [Lz,a7 x _ bb,a7 y _ be];have ce:NZ (B0++blk++B1) B0.length e Y a l c xs:=by
  rcases aw with⟨O,ac,al,a1,am⟩ | ⟨bk,f,O,ac,al,a1,am⟩
  ·exact .inl ⟨O,ac,al,am⟩
  ·refine .inr ⟨bk,f,O,?_,al,a1,am⟩;subst ac;simp
 have hlen:=aw.length;refine As _ _ (OF (pl:=B0.length) bi bo bw bv b0 hb b1 b2 ca ce cc b6 b3 b5 b4 ?_ ?_ ?_)
 ·
  intro bk f K ap cy cJ ci a2 a3 Z;rcases aw with⟨O,_⟩ | ⟨U,f0,O,ac,al,a1,am⟩
  ·rw [O] at ap;cases ap
  ·subst ac;have co:U=bk:=by rw [O] at ap;simpa using ap
   subst co;have cp:(B0++ [(U,Obj.cells f0 e (0,0))]++B1).set B0.length (U,.cells K e (0,0))=B0++ [(U,.cells K e (0,0))]++B1:=by
    rw [List.append_assoc,List.append_assoc];exact IB _ _ _ _
   rw [cp] at Z ⊢;have a4:Nd E H (B0++ [(U,.cells K e (0,0))]):=Nd.left Z;refine JL.drop (B0++ [(U,.cells K e (0,0))]) (λp a5=>?_) Z (h a c _ (.inr ⟨U,K,O,V,a2,ci,a3.symm⟩) a4);exact List.mem_iff_getElem?.1 (List.mem_append_left _ a5)
 ·intro _ hm;omega
 ·
  intro r K ag ct a2 a3 Z;have a4:Nd E H (B0++ [(r,.cells K e (0,0))]):=Nd.pick Z;refine JL.drop (B0++ [(r,.cells K e (0,0))]) (λp a5=>?_) Z (h (some ⟨r,0,none⟩) ag _ (.inr ⟨r,K,V,V,a2,ct,a3.symm⟩) a4);refine List.mem_iff_getElem?.1 ?_;rcases List.mem_append.1 a5 with q | q
  ·simp [q]
  ·exact List.mem_append_right _ q
 where
  Nd.left {E H : LH} {A C : List (Nat × Obj)} (h : Nd E H (A ++ C)) : Nd E H A := by
    induction A with
    | nil => trivial
    | cons p A ih =>
      obtain ⟨c, o⟩ := p
      obtain ⟨h1, h2, h3, h4⟩ := h
      exact ⟨h1, h2, λq hq => h3 q (List.mem_append_left _ hq), ih h4⟩
  Nd.pick {E H : LH} {A C F : List (Nat × Obj)} {x : Nat × Obj} (h : Nd E H (A ++ C ++ F ++ [x])) : Nd E H (A ++ [x]) := by
    induction A with
    | nil =>
      have : ∀ (D : List (Nat × Obj)), Nd E H (D ++ [x]) -> Nd E H [x] := by
        intro D
        induction D with
        | nil => exact λh => h
        | cons p D ih => obtain ⟨c, o⟩ := p; exact λh => ih h.2.2.2
      exact this _ h
    | cons p A ih =>
      obtain ⟨c, o⟩ := p
      obtain ⟨h1, h2, h3, h4⟩ := h
      refine ⟨h1, h2, λq hq => h3 q ?_, ih h4⟩
      rcases List.mem_append.1 hq with hq | hq
      . simp [hq]
      . exact List.mem_append_right _ hq
theorem VP{K r:Nat}{e:TypeId}{v:Value}{A:List (Nat×Obj)}(O:v.cells.size=K)(U:Nd E H (A++ [(r,.cells v.cells e (0,0))])):
  HJ (mk E H (A++ [(r,.cells v.cells e (0,0))])) (.slice (some ⟨r,0,none⟩) 1 1) K v.cells.toList:=by
 refine⟨.inl V,by simp [O],Nat.le_refl _,λj w Y=>?_⟩;simp only [Nat.zero_add];refine Rq (i:=A.length) U (c:=v.cells) (e:=e) (f:=(0,0)) (by simp) ?_;simpa using Y
theorem VC{e t t1 t2:TypeId}{K O l c:Nat}{a:Option Addr}{blk:List (Nat×Obj)}{xs:Lv_}{i al:Nat}{rest:List Nat}{d1:Tmp}{d:Option Tmp}{x y:Operand}{ats:Array TypeId}{ty U:TypeId}{p Y:String}{af Z:Ae_}{g g':On_}{z v:Value}
  (a2:ops[i]? =some ⟨some d1,.buildSlice t2 1 #[(0,y)],U,Y,Z,g'⟩) (hw:AM L ops ⟨some d1,.buildSlice t2 1 #[(0,y)],U,Y,Z,g'⟩=some true) (a3:BH b n ⟨some d1,.buildSlice t2 1 #[(0,y)],U,Y,Z,g'⟩=true)
  (a4:ops[al]? =some ⟨d,.call ⟨.builtin .append,#[x,.tmp d1],ats⟩,ty,p,af,g⟩) (a5:∀w,AM (Au L (some d1) w) ops ⟨d,.call ⟨.builtin .append,#[x,.tmp d1],ats⟩,ty,p,af,g⟩=some true) (a6:BH b n ⟨d,.call ⟨.builtin .append,#[x,.tmp d1],ats⟩,ty,p,af,g⟩=true)
  (a7:∀w,ev (Au L (some d1) w) x=some (.slice a l c)) (a8:ev L y=some v) (a9:ats[0]? =some t) (bb:ats[1]? =some t1) (be:P.underlying t=some (.slice e)) (bi:P.underlying t1=some (.slice e)) (bo:P.underlying t2=some (.slice e)) (am:Bj P e=some K) (hb:FJ P e=some O) (ap:zeroOf P e=some z) (aq:z.cells.size=K)
  (bv:0<O) (bw:O<=64) (ac:v.cells.size=K) (b5:0<K) (b6:K<=64) (b0:l+1<=2 ^ 40) (b1:∀w∈v.cells.toList,CJ w=true) (b2:GS e K a l c blk xs) (b3:Nd E H (B0++blk))
  (h:∀w aw a0 ag,GS e K aw (l+1) a0 ag (xs++v.cells.toList)->Nd E H (B0++ag)->JL J Q b n (Au (Au L (some d1) w) d (.slice aw (l+1) a0)) ds (.inRegion ops rest::k) cs (mk E H (B0++ag))):
  JL J Q b n L ds (.inRegion ops (i::al::rest)::k) cs (mk E H (B0++blk)):=by
 refine JL.op a2 hw a3 λρ b4=>?_;rw [UH,b4 y _ a8];refine As _ _ (UD (z:=z) (v:=v) bo (by rw [ac];exact am) ap (by rw [ac];exact aq) (by omega) (by omega) b3 λr a1=>?_);refine Kd (B1:= [(r,.cells v.cells e (0,0))]) (m:=1) (cx:=1) (ax:=some ⟨r,0,none⟩) (y:= .tmp d1) (x:=x) (ys:=v.cells.toList) (l:=l) (c:=c) (a:=a) (blk:=blk) (xs:=xs) a4 (a5 _) a6 (a7 _) aC a9 bb be bi am hb ap aq bv bw (by omega) b0 b1 b2 a1 ?_ (h _);exact VP ac a1
theorem U2{e:TypeId}{K l c:Nat}{a:Option Addr}{blk:List (Nat×Obj)}{xs:Lv_}{todo:Li_}(ac:GS e K a l c blk xs)(U:Nd E H (B0++blk))
  (h:∀E',Le E E'->Ob E' K (.slice a l c) l xs->Nd E' H B0->JL J Q b n L ds todo cs (mk E' H B0)):JL J Q b n L ds todo cs (mk E H (B0++blk)):=by
 rcases ac with⟨rfl,rfl,rfl,rfl,rfl⟩ | ⟨bk,f,rfl,rfl,ag,Y,rfl⟩
 ·simp only [List.append_nil] at U ⊢;exact h E (Le.refl _) .nil U
 ·have al:(B0++ [(bk,Obj.cells f e (0,0))])[B0.length]? =some (bk,Obj.cells f e (0,0)):=by simp
  refine JL.freeze B0.length U al λE' hle am Z=>?_;have ap:(B0++ [(bk,Obj.cells f e (0,0))]).eraseIdx B0.length=B0:=by rw [List.eraseIdx_append_of_length_le (Nat.le_refl _)];simp
  rw [ap] at Z ⊢;refine h E' hle ⟨_,c,V,Y,?_,.inr ⟨bk,0,f,e,(0,0),V,am,λj w O=>?_⟩⟩ Z
  ·have:l*K<=c*K:=Nat.mul_le_mul_right _ Y;simp [ag,Nat.min_eq_left this]
  ·rw [List.getElem?_take] at O;split at O
   ·simpa using O
   ·cases O
end
abbrev iV(n:Int):Value:= .int .i64 n
variable {c:Nat}
section
variable {x:Operand}{a:Nat}
end
theorem Pb{P:Program}{t:TypeId}{K:TypeInfo}(h:P.types[t]? =some K):P.info? t=some K:=by
 have:=(Array.getElem?_eq_some_iff.1 h).1;unfold Tables.info?;rw [if_pos this,h]
theorem AN{P:Program}{t:TypeId}{K:TypeInfo}(h:P.types[t]? =some K):Bj P t=some K.size:=by simp [Bj,Pb h]
theorem CX{P:Program}{t:TypeId}{K:TypeInfo}(h:P.types[t]? =some K):FJ P t=some K.bytes:=by simp [FJ,Pb h]
theorem Db{P:Program}{t:TypeId}{K:TypeInfo}(h:P.types[t]? =some K):zeroOf P t=K.zero:=by simp [zeroOf,Pb h]
def Zi:TypeDesc->Bool | .struct _=>true | .array _ _=>true | _=>false
theorem Cu{P:Program}{t:TypeId}{d:TypeDesc}(h:P.underlying t=some d):De P t=some (Zi d):=by
 unfold De;rw [h];cases d <;> rfl
theorem A0{P:Program}{f:FuncId}{fn:Func}(h:P.funcs[f]? =some fn)(hb:(!(fn.name== "runtime.NumGoroutine")&&fn.body.isSome)=true):Dm P f=true:=by
 simp only [Dm,h];exact hb
def TF(a:Nat):Nat->List Nat
 | 0=> []
 | n+1=>TF a n++(if a.testBit n then [n] else [])
abbrev Ui(a:Nat):List Nat:=TF a 16
end Pal
namespace Pal
open Go Go.Conc
def At(E:LH)(bk o:Nat)(ws:Lv_):Prop:=∃f e fr,E bk=some (.cells f e fr)/\∀j w,ws[j]? =some w->f[o+j]? =some w
theorem At.Ah{E E':LH}{bk o:Nat}{ws:Lv_}(h:At E bk o ws)(hle:Le E E'):At E' bk o ws:=let ⟨f,e,fr,K,O⟩:=h;⟨f,e,fr,hle _ _ K,O⟩
theorem At.cell{E H:LH}{B:List (Nat×Obj)}{bk o j:Nat}{ws:Lv_}{w:Value}(h:At E bk o ws)(K:ws[j]? =some w):(mk E H B).cell? ⟨bk,o+j,none⟩=some w:=
 let ⟨_,_,_,O,U⟩:=h;VV O (U j w K)
theorem At.cells{E H:LH}{B:List (Nat×Obj)}{bk o:Nat}{ws:Lv_}(h:At E bk o ws):∀j v,ws[j]? =some v->(mk E H B).cell? (Addr.add ⟨bk,o,none⟩ j)=some v:=λj v K=>by
 rw [Dw rfl];exact h.cell K
variable {P:Program}{J:Judge P}{Q:Gs_}{ds:Ld_}{ops:Ao_}{k:Li_}{cs:Lf_}{L:Env}{s:St}{E E' H:LH}{B B0:List (Nat×Obj)}
variable {d:Option Tmp}{y:Operand}{t u ty e:TypeId}{p:String}{af:Ae_}{g:On_}{rest:List Nat}{kd:IntKind}
section
variable {b:Frame}{n:Nat}
variable {x:Operand}{v:Value}{i:Nat}
theorem JL.put(h:look L i=some v)(O:JL J Q b n (Au L (some i) v) ds k cs s):JL J Q b n L ds k cs s:=λT K=>
 O T ⟨K.size,λt w e=>by
  simp only [Au,look] at e
  split at e
  ·rename_i U;subst U;cases e;exact K.at_ _ _ h
  ·exact K.at_ _ _ e⟩
theorem LJ{q:Prop} [Decidable q] (h:look L i=some (.bool (decide q)))(O:q->JL J Q b n (Au L (some i) (.bool true)) ds k cs s)(U:¬q->JL J Q b n (Au L (some i) (.bool false)) ds k cs s):JL J Q b n L ds k cs s:=by
 by_cases K:q
 ·refine JL.put (i:=i) (v:= .bool true) ?_ (O K);rw [h,decide_eq_true K]
 ·refine JL.put (i:=i) (v:= .bool false) ?_ (U K);rw [h,decide_eq_false K]
theorem Ki{c:Bool}(h:look L i=some (.bool c))(K:c=true->JL J Q b n (Au L (some i) (.bool true)) ds k cs s)(O:c=false->JL J Q b n (Au L (some i) (.bool false)) ds k cs s):JL J Q b n L ds k cs s:=by
 cases c
 ·exact JL.put h (O V)
 ·exact JL.put h (K V)
end
theorem DJ{P:Program}{s:St}{ρ:Operand->Value}{d:Option Tmp}{t ty ft:TypeId}{x:Operand}{p:String}{af:Ae_}{g:On_}{a:Addr}{O:Array Field}{i:Nat}{K:Field}(U off:Nat)(Y:P.underlying t=some (.struct O))(Z:Bj P ft=some (U+1))(hi:O[i]? =some K)(ac:K.type=ft)(ag:K.offset=off)(al:ρ x= .pointer (some a)):
  Yl P ⟨d,.fieldAddr t x i,ty,p,af,g⟩ ρ s (.pointer (some (a.add off))):=by
 subst ac ag;exact Yl.fieldAddr Y hi Z al
section
variable {b:Frame}{n:Nat}
variable {x:Operand}{v:Value}{i:Nat}
theorem At.EK{bk o j:Nat}{ws:Lv_}{w:Value}(h:At E bk o ws)(K:∀x o,E x=some o->s.E x=some o)(O:ws[j]? =some w):s.cell? ⟨bk,o+j,none⟩=some w:=by
 obtain⟨f,e,fr,U,Y⟩:=h;unfold St.cell? St.get;rw [K _ _ U];exact Y j w O
theorem At.Pv{bk o:Nat}{ws:Lv_}(h:At E bk o ws)(K:∀x o,E x=some o->s.E x=some o):∀j v,ws[j]? =some v->s.cell? (Addr.add ⟨bk,o,none⟩ j)=some v:=λj v O=>by
 rw [Dw rfl];exact h.EK K O
end
variable {listed:Array Bool}
section
variable {b:Frame}{n:Nat}{m fuel:Nat}
variable {x:Operand}{v:Value}{i:Nat}
end
variable {D:Nat->Bool}
section
variable {b:Frame}{n:Nat}{m fuel:Nat}{i:Nat}{v:Value}
theorem AO.put(h:look L i=some v)(O:AO J Q b n ds ops k cs m D fuel listed (Au L (some i) v) s):AO J Q b n ds ops k cs m D fuel listed L s:=λT K=>
 O T ⟨K.size,λt w e=>by
  simp only [Au,look] at e
  split at e
  ·rename_i U;subst U;cases e;exact K.at_ _ _ h
  ·exact K.at_ _ _ e⟩
theorem G5{q:Prop} [Decidable q] (h:look L i=some (.bool (decide q)))(O:q->AO J Q b n ds ops k cs m D fuel listed (Au L (some i) (.bool true)) s)(U:¬q->AO J Q b n ds ops k cs m D fuel listed (Au L (some i) (.bool false)) s):AO J Q b n ds ops k cs m D fuel listed L s:=by
 by_cases K:q
 ·refine AO.put (i:=i) (v:= .bool true) ?_ (O K);rw [h,decide_eq_true K]
 ·refine AO.put (i:=i) (v:= .bool false) ?_ (U K);rw [h,decide_eq_false K]
end
structure Rp (α:Type) where
 n:Nat
 r:LH->Lv_->α->Prop
 Ah:∀{E E':LH} {ws:Lv_} {x:α},Le E E'->r E ws x->r E' ws x
 len:∀{E:LH} {ws:Lv_} {x:α},r E ws x->ws.length=n
 one:∀{E:LH} {ws:Lv_} {x:α},r E ws x->∀w∈ws,CJ w=true
def rK(kd:IntKind):Rp Int:=⟨1,λ_ ws x=>ws= [.int kd x],λ_ h=>h,λh=>by subst h;rfl,λh w hw=>by subst h;simp at hw;subst hw;rfl⟩
abbrev rI:Rp Int:=rK .i64
def rN(kd:IntKind):Rp Nat:=⟨1,λ_ ws x=>ws= [.int kd ((x:Nat):Int)],λ_ h=>h,λh=>by subst h;rfl,λh w hw=>by subst h;simp at hw;subst hw;rfl⟩
def rB:Rp Bool:=⟨1,λ_ ws x=>ws= [.bool x],λ_ h=>h,λh=>by subst h;rfl,λh w hw=>by subst h;simp at hw;subst hw;rfl⟩
def rP{α β:Type}(p:Rp α)(q:Rp β):Rp (α×β):=⟨p.n+q.n,λE ws x=>∃U Y,ws=U++Y/\p.r E U x.1/\q.r E Y x.2,
 λhle ⟨a,b,h,K,O⟩=>⟨a,b,h,p.Ah hle K,q.Ah hle O⟩,λ⟨a,b,h,K,O⟩=>by subst h;rw [List.length_append,p.len K,q.len O],
 λ⟨a,b,h,K,O⟩ w hw=>by
  subst h
  rcases List.mem_append.1 hw with hw | hw
  ·exact p.one K w hw
  ·exact q.one O w hw⟩
def Al{α:Type}(p:Rp α)(E:LH)(a:Option Addr)(c:Nat)(xs:List α):Prop:=
 xs.length<=c/\((xs= []/\∀ad:Addr,a=some ad->ad.spot=none∨c=0)∨∃bk off,a=some ⟨bk,off,none⟩/\∀(i:Nat) x,xs[i]? =some x->∃ws,p.r E ws x/\At E bk (off+i*p.n) ws)
theorem Al.Ah{α:Type}{p:Rp α}{E E':LH}{a:Option Addr}{c:Nat}{xs:List α}(h:Al p E a c xs)(hle:Le E E'):Al p E' a c xs:=
 ⟨h.1,h.2.imp id λ⟨bk,off,K,O⟩=>⟨bk,off,K,λi x U=>let ⟨ws,Y,Z⟩:=O i x U;⟨ws,p.Ah hle Y,Z.Ah hle⟩⟩⟩
theorem Al.nil{α:Type}{p:Rp α}{E:LH}{c:Nat}:Al p E none c []:=⟨Nat.zero_le _,.inl ⟨V,λ_ h=>by cases h⟩⟩
def rL{α:Type}(p:Rp α):Rp (List α):=⟨1,λE ws xs=>∃a c,ws= [.slice a xs.length c]/\Al p E a c xs,
 λhle ⟨a,c,h,K⟩=>⟨a,c,h,K.Ah hle⟩,λ⟨a,c,h,K⟩=>by subst h;rfl,λ⟨a,c,h,K⟩ w hw=>by subst h;simp at hw;subst hw;rfl⟩
def rV:Rp Value:=⟨1,λ_ ws x=>ws= [x]/\CJ x=true,λ_ h=>h,λh=>by rw [h.1];rfl,λh w hw=>by rw [h.1] at hw;simp at hw;subst hw;exact h.2⟩
def rA{α:Type}(k:Nat)(p:Rp α):Rp (List α):=⟨k*p.n,λE ws xs=>xs.length=k/\∃wss:List (Lv_),ws=wss.flatten/\wss.length=k/\∀(i:Nat) x us,xs[i]? =some x->wss[i]? =some us->p.r E us x,
 λhle ⟨U,wss,h,K,O⟩=>⟨U,wss,h,K,λi x us a b=>p.Ah hle (O i x us a b)⟩,
 λ{E ws xs} ⟨U,wss,h,K,O⟩=>by
  subst h
  have:∀(wss:List (Lv_)) (xs:List α),xs.length=wss.length->(∀(i:Nat) x us,xs[i]? =some x->wss[i]? =some us->p.r E us x)->wss.flatten.length=wss.length*p.n:=by
   intro wss
   induction wss with
   | nil=>intro xs _ _;simp
   | cons us wss Z=>
    intro xs Y h
    cases xs with
    | nil=>simp at Y
    | cons x xs=>
     rw [List.flatten_cons,List.length_append,p.len (h 0 x us rfl rfl),Z xs (by simpa using Y) (λi y u a b=>h (i+1) y u a b),List.length_cons,Nat.succ_mul,Nat.add_comm]
  rw [this wss xs (by omega) O,K],
 λ{E ws xs} ⟨U,wss,h,K,O⟩ w hw=>by
  subst h
  obtain⟨us,ac,hw⟩:=List.mem_flatten.1 hw
  obtain⟨i,hi⟩:=List.mem_iff_getElem?.1 ac
  have ag:i<xs.length:=by rw [U,← K];exact(List.getElem?_eq_some_iff.1 hi).1
  exact p.one (O i _ us (List.getElem?_eq_getElem ag) hi) w hw⟩
def ix{α:Type}(xs:List α)(i:Int):Option α:=if 0<=i then xs[i.toNat]? else none
theorem FV{α:Type}{xs:List α}{i:Int}{x:α}(h:ix xs i=some x):∃m:Nat,i=m/\xs[m]? =some x:=by
 unfold ix at h;split at h
 ·exact⟨i.toNat,by omega,h⟩
 ·cases h
def Av(x:Int):Option Int:=if -9223372036854775808<=x/\x<=9223372036854775807 then some x else none
theorem KQ{x y:Int}(h:Av x=some y):y=x/\ -9223372036854775808<=x/\x<=9223372036854775807:=by
 unfold Av at h;split at h
 ·rename_i hb;exact⟨(Option.some.inj h).symm,hb⟩
 ·cases h
theorem bind_some{α β:Type}{o:Option α}{f:α->Option β}{r:β}(h:o.bind f=some r):∃x,o=some x/\f x=some r:=by
 cases o with
 | none=>cases h
 | some x=>exact⟨x,rfl,h⟩
inductive Bm (S A:Type) where
 | more (s:S)
 | done (a:A)
def iter{S A:Type}(body:S->Option (Bm S A)):Nat->S->Option A
 | 0,_=>none
 | f+1,s=>match body s with
  | none=>none
  | some (.done a)=>some a
  | some (.more s')=>iter body f s'
theorem Q5{S A:Type}{body:S->Option (Bm S A)}{f:Nat}{s:S}{a:A}(h:iter body (f+1) s=some a):∃st,body s=some st:=by
 simp only [iter] at h;cases hb:body s with
 | none=>rw [hb] at h;cases h
 | some st=>exact⟨st,rfl⟩
theorem Q9{S A:Type}{body:S->Option (Bm S A)}{f:Nat}{s:S}{a K:A}(h:iter body (f+1) s=some a)(hb:body s=some (.done K)):K=a:=by
 simp only [iter,hb] at h;exact Option.some.inj h
theorem Ra{S A:Type}{body:S->Option (Bm S A)}{f:Nat}{s s':S}{a:A}(h:iter body (f+1) s=some a)(hb:body s=some (.more s')):iter body f s'=some a:=by
 simp only [iter,hb] at h;exact h
abbrev Seg:=List (Nat×Obj)
def Aj(E H:LH)(S:List Seg):St:=mk E H S.flatten
def Aq(E H:LH)(S:List Seg):Prop:=Nd E H S.flatten
theorem Nd.mem{E H:LH}:∀{B:List (Nat×Obj)} {b:Nat} {o:Obj},Nd E H B->(b,o)∈B->∃i:Nat,B[i]? =some (b,o):=λ_ h=>List.mem_iff_getElem?.1 h
theorem Nd.iff{E H:LH}:∀{B:List (Nat×Obj)},Nd E H B↔(B.map (·.1)).Nodup/\∀p∈B,E p.1=none/\H p.1=none
 | []=>by simp [Nd]
 | (b,o)::B=>by
  simp only [Nd,List.map_cons,List.nodup_cons,List.mem_cons,forall_eq_or_imp,Nd.iff (B:=B),List.mem_map,not_exists,not_and]
  constructor
  ·rintro⟨K,O,U,Y,Z⟩;exact⟨⟨U,Y⟩,⟨K,O⟩,Z⟩
  ·rintro⟨⟨U,Y⟩,⟨K,O⟩,Z⟩;exact⟨K,O,U,Y,Z⟩
theorem Nd.perm{E H:LH}{B B':List (Nat×Obj)}(h:Nd E H B)(K:B.Perm B'):Nd E H B':=by
 rw [Nd.iff] at h ⊢;exact⟨(K.map _).nodup_iff.1 h.1,λp O=>h.2 p (K.mem_iff.2 O)⟩
theorem QP{E H:LH}{B B':List (Nat×Obj)}(h:Nd E H B)(K:B.Perm B'):Be B H=Be B' H:=by
 funext x;by_cases O:∃p∈B,p.1=x
 ·obtain⟨⟨b,o⟩,hm,rfl⟩:=O;obtain⟨i,hi⟩:=h.mem hm;obtain⟨j,U⟩:=(h.perm K).mem (K.mem_iff.1 hm);rw [I3 h hi,I3 (h.perm K) U]
 ·have key:∀{C:List (Nat×Obj)},(∀p∈C,p.1≠x)->Be C H x=H x:=by
   intro C
   induction C with
   | nil=>intro _;rfl
   | cons p C Y=>
    intro hC;obtain⟨c,u⟩:=p;have Z:x≠c:=λe=>hC (c,u) (by simp) e.symm;simp only [Be,if_neg Z];exact Y λp K=>hC p (List.mem_cons_of_mem _ K)
  rw [key λp K e=>O ⟨p,K,e⟩,key λp ac e=>O ⟨p,K.mem_iff.2 ac,e⟩]
theorem ET{E H:LH}{B B':List (Nat×Obj)}(h:Nd E H B)(K:B.Perm B'):mk E H B=mk E H B':=by unfold mk;rw [QP h K]
theorem Ei{S:List Seg}{j:Nat}{seg seg':Seg}(h:S[j]? =some seg):S.flatten.Perm ((S.set j []).flatten++seg)/\(S.set j seg').flatten.Perm ((S.set j []).flatten++seg'):=by
 induction S generalizing j with
 | nil=>simp at h
 | cons x S K=>
  cases j with
  | zero=>
   simp at h;subst h;simp only [List.set_cons_zero,List.flatten_cons,List.nil_append];exact⟨List.perm_append_comm,List.perm_append_comm⟩
  | succ j=>
   simp at h;obtain⟨O,U⟩:=K h;simp only [List.set_cons_succ,List.flatten_cons,List.append_assoc];exact⟨O.append_left x,U.append_left x⟩
theorem GL{E H:LH}{S:List Seg}{j:Nat}{seg:Seg}(K:Aq E H S)(h:S[j]? =some seg):Aj E H S=mk E H ((S.set j []).flatten++seg)/\Nd E H ((S.set j []).flatten++seg):=
 ⟨ET K (Ei (seg':=seg) h).1,Nd.perm K (Ei (seg':=seg) h).1⟩
theorem IF{E H:LH}{S:List Seg}{j:Nat}{seg seg':Seg}(h:S[j]? =some seg)(K:Nd E H ((S.set j []).flatten++seg')):mk E H ((S.set j []).flatten++seg')=Aj E H (S.set j seg')/\Aq E H (S.set j seg'):=
 ⟨ET K (Ei h).2.symm,Nd.perm K (Ei h).2.symm⟩
theorem GI(S:List Seg)(seg:Seg):(S++ [seg]).flatten=S.flatten++seg:=by simp
theorem Fp{E H:LH}{S:List Seg}{seg:Seg}(K:Nd E H (S.flatten++seg)):mk E H (S.flatten++seg)=Aj E H (S++ [seg])/\Aq E H (S++ [seg]):=by
 unfold Aj Aq;rw [GI];exact⟨V,K⟩
theorem Dh{E H:LH}{S:List Seg}{j i bk:Nat}{seg:Seg}{o:Obj}(K:Aq E H S)(O:S[j]? =some seg)(hi:seg[i]? =some (bk,o)):(Aj E H S).get bk=some o:=by
 have hm:(bk,o)∈S.flatten:=List.mem_flatten.2 ⟨seg,List.mem_of_getElem? O,List.mem_of_getElem? hi⟩;obtain⟨Y,U⟩:=K.mem hm;exact OA K U
theorem BR{E H:LH}{S:List Seg}{j bk off:Nat}{c:Av_}{e:TypeId}{f:Nat×Nat}{v:Value}{seg:Seg}(K:Aq E H S)(O:S[j]? =some ((bk,.cells c e f)::seg))(U:c[off]? =some v):(Aj E H S).cell? ⟨bk,off,none⟩=some v:=by
 unfold St.cell?;rw [Dh (i:=0) K O rfl];exact U
theorem Vg{E H:LH}{S:List Seg}{j bk off:Nat}{c:Av_}{e:TypeId}{f:Nat×Nat}{vs:Lv_}{seg:Seg}(K:Aq E H S)(O:S[j]? =some ((bk,.cells c e f)::seg))(U:∀i v,vs[i]? =some v->c[off+i]? =some v):∀i v,vs[i]? =some v->(Aj E H S).cell? (Addr.add ⟨bk,off,none⟩ i)=some v:=λi v hi=>by
 rw [Dw rfl];exact BR K O (U i v hi)
def OL{α:Type}(e:TypeId)(p:Rp α)(E:LH)(a:Option Addr)(c:Nat)(seg:Seg)(xs:List α):Prop:=
 ∃wss:List (Lv_),GS e p.n a xs.length c seg wss.flatten/\wss.length=xs.length/\∀(i:Nat) x ws,xs[i]? =some x->wss[i]? =some ws->p.r E ws x
theorem OL.Ah{α:Type}{e:TypeId}{p:Rp α}{E E':LH}{a:Option Addr}{c:Nat}{seg:Seg}{xs:List α}(h:OL e p E a c seg xs)(hle:Le E E'):OL e p E' a c seg xs:=
 let ⟨wss,K,O,U⟩:=h;⟨wss,K,O,λi x ws Y hw=>p.Ah hle (U i x ws Y hw)⟩
theorem OL.nil{α:Type}{e:TypeId}{p:Rp α}{E:LH}:OL e p E none 0 [] []:=⟨[],GS.nil,V,λi x ws K=>by simp at K⟩
theorem Ia{α:Type}{p:Rp α}{E:LH}{wss:List (Lv_)}{xs:List α}(K:wss.length=xs.length)(h:∀(i:Nat) x ws,xs[i]? =some x->wss[i]? =some ws->p.r E ws x):∀ws∈wss,ws.length=p.n:=λws hw=>by
 obtain⟨i,hi⟩:=List.mem_iff_getElem?.1 hw
 have O:i<xs.length:=by rw [← K];exact(List.getElem?_eq_some_iff.1 hi).1
 exact p.len (h i _ ws (List.getElem?_eq_getElem O) hi)
theorem Kf{α:Type}{n:Nat}:∀{wss:List (List α)},(∀ws∈wss,ws.length=n)->∀{i:Nat} {ws:List α},wss[i]? =some ws->∀j w,ws[j]? =some w->wss.flatten[i*n+j]? =some w
 | [],_,_,_,h,_,_,_=>by simp at h
 | us::wss,O,0,ws,h,j,w,K=>by
  simp at h;subst h
  have:j<us.length:=(List.getElem?_eq_some_iff.1 K).1
  simp only [List.flatten_cons,Nat.zero_mul,Nat.zero_add]
  rw [List.getElem?_append_left this];exact K
 | us::wss,O,i+1,ws,h,j,w,K=>by
  simp at h
  have hu:us.length=n:=O us (by simp)
  simp only [List.flatten_cons]
  rw [List.getElem?_append_right (by rw [hu,Nat.succ_mul];omega)]
  have e:(i+1)*n+j - us.length=i*n+j:=by rw [hu,Nat.succ_mul];omega
  rw [e];exact Kf (λws hw=>O ws (List.mem_cons_of_mem _ hw)) h j w K
variable {ρ:Operand->Value}{z:Operand}{kd':IntKind}{m':Int}
section
variable {x:Operand}{v:Value}{m:Int}{a b:Nat}
theorem P3{a:Nat}:IntKind.u64.wrap (a:Int)=((a % 2 ^ 64:Nat):Int):=by
 simp only [IntKind.wrap,IntKind.bits,IntKind.signed];simp
theorem YI(K:ρ x= .int .u64 (a:Int))(O:ρ y= .int .u64 (b:Int)):Yl P ⟨d,.binOp .add t x y u,ty,p,af,g⟩ ρ s (.int .u64 (((a+b) % 2 ^ 64:Nat):Int)):=by
 have h:=Yl.add (P:=P) (s:=s) (d:=d) (t:=t) (u:=u) (ty:=ty) (p:=p) (af:=af) (g:=g) K O;rw [show((a:Int)+(b:Int))=((a+b:Nat):Int) by omega,P3] at h;exact h
theorem No(K:ρ x= .int .u64 (a:Int))(O:ρ y= .int .u64 (b:Int)):Yl P ⟨d,.binOp .mul t x y u,ty,p,af,g⟩ ρ s (.int .u64 (((a*b) % 2 ^ 64:Nat):Int)):=by
 have h:=Yl.mul (P:=P) (s:=s) (d:=d) (t:=t) (u:=u) (ty:=ty) (p:=p) (af:=af) (g:=g) K O;rw [show((a:Int)*(b:Int))=((a*b:Nat):Int) by rw [Int.natCast_mul],P3] at h;exact h
theorem M7(K:ρ x= .int .u64 (a:Int))(O:ρ y= .int .u64 (b:Int)):Yl P ⟨d,.binOp .xor t x y u,ty,p,af,g⟩ ρ s (.int .u64 (((a ^^^ b) % 2 ^ 64:Nat):Int)):=by
 have h:=Yl.xor (P:=P) (s:=s) (d:=d) (t:=t) (u:=u) (ty:=ty) (p:=p) (af:=af) (g:=g) K O;have e:(BitVec.ofInt IntKind.u64.bits (a:Int) ^^^ BitVec.ofInt IntKind.u64.bits (b:Int)).toNat=(a ^^^ b) % 2 ^ 64:=by
  rw [Nat.xor_mod_two_pow];rw [BitVec.ofInt_natCast,BitVec.ofInt_natCast];show(BitVec.ofNat 64 a ^^^ BitVec.ofNat 64 b).toNat=_;rw [BitVec.toNat_xor,BitVec.toNat_ofNat,BitVec.toNat_ofNat]
 rw [e,P3,Nat.mod_mod] at h;exact h
theorem Yz(K:ρ x= .int .u64 (a:Int))(O:ρ y= .int .u64 (b:Int))(U:b≠0):Yl P ⟨d,.binOp .rem t x y u,ty,p,af,g⟩ ρ s (.int .u64 ((a % b:Nat):Int)):=by
 have h:=Yl.rem (P:=P) (s:=s) (d:=d) (t:=t) (u:=u) (ty:=ty) (p:=p) (af:=af) (g:=g) K O (by omega);rw [show(a:Int).tmod (b:Int)=((a % b:Nat):Int) from rfl] at h;exact h
theorem K2(c:Nat)(K:ρ x= .int .u64 (a:Int))(O:ρ y= .int .u64 (c:Int))(U:c<=64):Yl P ⟨d,.binOp .shr t x y u,ty,p,af,g⟩ ρ s (.int .u64 ((a>>>c:Nat):Int)):=by
 have h:=Yl.shr (P:=P) (s:=s) (d:=d) (t:=t) (u:=u) (ty:=ty) (p:=p) (af:=af) (g:=g) K O (by omega);have e:min (c:Int).toNat IntKind.u64.bits=c:=by simp [IntKind.bits];omega
 rw [e,Int.fdiv_eq_ediv_of_nonneg _ (Int.pow_nonneg (by decide))] at h;have e2:(a:Int) / 2 ^ c=((a>>>c:Nat):Int):=by rw [Nat.shiftRight_eq_div_pow,Int.natCast_ediv];rfl
 rw [e2] at h;exact h
def CZ(m:Int):Nat:=(m % 2 ^ 64).toNat
def Mn(a:Nat):Int:=IntKind.i64.wrap (a:Int)
theorem Yl.CZ(K:P.underlying t=some (.int .i64))(hu:P.underlying u=some (.int .u64))(O:ρ x=iV m):Yl P ⟨d,.convert t u x,ty,p,af,g⟩ ρ s (.int .u64 ((CZ m:Nat):Int)):=by
 have h:=Fb (P:=P) (s:=s) (d:=d) (ty:=ty) (p:=p) (af:=af) (g:=g) K hu O
 have e:IntKind.u64.wrap m=((Pal.CZ m:Nat):Int):=by
  unfold Pal.CZ;simp only [IntKind.wrap,IntKind.bits,IntKind.signed];simp;omega
 rw [e] at h;exact h
theorem ZM(K:P.underlying t=some (.int .u64))(hu:P.underlying u=some (.int .i64))(O:ρ x= .int .u64 (a:Int)):Yl P ⟨d,.convert t u x,ty,p,af,g⟩ ρ s (iV (Mn a)):=
 Fb (P:=P) (s:=s) (d:=d) (ty:=ty) (p:=p) (af:=af) (g:=g) K hu O
theorem Fq{r:Int}(K:ρ x=iV m)(O:ρ y=iV m')(h:Av (m+m')=some r):Yl P ⟨d,.binOp .add t x y u,ty,p,af,g⟩ ρ s (iV r):=by
 obtain⟨rfl,hb⟩:=KQ h;exact X7 K O hb
theorem Dp{r:Int}(K:ρ x=iV m)(O:ρ y=iV m')(h:Av (m - m')=some r):Yl P ⟨d,.binOp .sub t x y u,ty,p,af,g⟩ ρ s (iV r):=by
 obtain⟨rfl,hb⟩:=KQ h;exact Yj K O hb
theorem Nj{r:Int}(K:ρ x=iV m)(O:ρ y=iV m')(h:Av (m*m')=some r):Yl P ⟨d,.binOp .mul t x y u,ty,p,af,g⟩ ρ s (iV r):=by
 obtain⟨rfl,hb⟩:=KQ h;exact Yo K O hb
theorem G9{r:Int}(K:ρ x=iV m)(h:Av (-m)=some r):Yl P ⟨d,.unOp .neg t x,ty,p,af,g⟩ ρ s (iV r):=by
 obtain⟨rfl,hb⟩:=KQ h;exact YJ K hb
theorem HD(K:ρ x= .int kd m)(O:ρ y= .int kd m'):Yl P ⟨d,.binOp .neq t x y u,ty,p,af,g⟩ ρ s (.bool (decide (m≠m'))):=by
 have h:=Yl.neq (P:=P) (s:=s) (d:=d) (t:=t) (u:=u) (ty:=ty) (p:=p) (af:=af) (g:=g) K O;simpa using h
theorem K3{q:Prop} [Decidable q] (K:ρ x= .bool (decide q)):Yl P ⟨d,.unOp .not t x,ty,p,af,g⟩ ρ s (.bool (decide (¬q))):=by
 have h:=Yl.not (P:=P) (s:=s) (d:=d) (t:=t) (ty:=ty) (p:=p) (af:=af) (g:=g) K;simpa using h
theorem OK{K:Array (Nat×Operand)}:execOp ρ ⟨d,.build t K,ty,p,af,g⟩=(do pure (Next.value (← Instr.build t (K.map λ(j,x)=>(j,ρ x))))):=by
 simp only [execOp]
theorem Yl.build{z:Value}{O:Array Field}{K:Array (Nat×Operand)}{vs:List (Nat×Value)}{places:Array (Nat×Nat)}{cells:Av_}(Z:zeroOf P t=some z)(ac:P.underlying t=some (.struct O))(ag:O.toList.mapM (λf=>(Bj P f.type).map λn=>(f.offset,n))=some places.toList)
  (al:K.toList.map (λ(j,x)=>(j,ρ x))=vs) (am:Instr.fill (places[·]?) z.cells vs=some cells):Yl P ⟨d,.build t K,ty,p,af,g⟩ ρ s (.agg cells):=by
 refine Fo OK ?_;unfold Instr.build;refine As (x:=zeroValue t) _ (HA Z ?_);refine As _ _ (Cg ac ?_);simp only;have key:∀(l:List Field) (acc:List (Nat×Nat)) {Q:List (Nat×Nat)->St->Prop} {X:Halt->St->Prop} (K:List (Nat×Nat)),l.mapM (λf=>(Bj P f.type).map λn=>(f.offset,n))=some K->Q (acc.reverse++K) s->lp P (List.mapM.loop (m:=Sem) (λf=>do pure (f.offset,← Go.sizeOf f.type)) l acc) s Q X:=by
  intro l
  induction l with
  | nil=>
   intro acc Q X K h k;simp at h;subst h;simp only [List.append_nil] at k;exact k
  | cons f l ap=>
   intro acc Q X K h k;simp only [List.mapM_cons,bind] at h;cases U:Bj P f.type with
   | none=>rw [U] at h;simp at h
   | some n=>
    rw [U] at h;simp only [Option.map_some,Option.bind_some] at h;obtain⟨aq,aw,Y⟩:=bind_some h;simp at Y;subst Y;have:=ap ((f.offset,n)::acc) (Q:=Q) (X:=X) aq aw (by simpa using k);simp only [List.mapM.loop];exact As _ _ (As (x:=Go.sizeOf f.type) _ (EJ U this))
 have e:(K.map λ(j,x)=>(j,ρ x)).toList=vs:=by rw [← al,Array.toList_map]
 refine As _ _ ?_;rw [Array.mapM_eq_mapM_toList];refine As (x:=List.mapM.loop (m:=Sem) (λf=>do pure (f.offset,← Go.sizeOf f.type)) O.toList []) (f:=λr=>pure r.toArray) (key O.toList [] places.toList ag ?_)
 simp only [List.reverse_nil,List.nil_append,lp,pure];rw [e,am];exact⟨V,V⟩
end
variable {S:List Seg}
section
variable {b:Frame}{n:Nat}
variable {x:Operand}{v:Value}{i:Nat}
theorem JS.box(O:ops[i]? =some ⟨d,.box e x,ty,p,af,g⟩)(hw:AM L ops ⟨d,.box e x,ty,p,af,g⟩=some true)(U:BH b n ⟨d,.box e x,ty,p,af,g⟩=true)(Y:Aq E H S)(Z:ev L x=some v)
  (h:∀r,Aq E H (S++ [[(r,.cells v.cells e (0,0))]])->JL J Q b n (Au L d (.pointer (some ⟨r,0,none⟩))) ds (.inRegion ops rest::k) cs (Aj E H (S++ [[(r,.cells v.cells e (0,0))]]))):
  JL J Q b n L ds (.inRegion ops (i::rest)::k) cs (Aj E H S):=
 JL.box O hw U Y Z λr K=>by rw [(Fp K).1];exact h r (Fp K).2
theorem JS.alloc{z:Value}(O:ops[i]? =some ⟨d,.alloc e,ty,p,af,g⟩)(hw:AM L ops ⟨d,.alloc e,ty,p,af,g⟩=some true)(U:BH b n ⟨d,.alloc e,ty,p,af,g⟩=true)(Y:Aq E H S)(Z:zeroOf P e=some z)
  (h:∀r,Aq E H (S++ [[(r,.cells z.cells e (0,0))]])->JL J Q b n (Au L d (.pointer (some ⟨r,0,none⟩))) ds (.inRegion ops rest::k) cs (Aj E H (S++ [[(r,.cells z.cells e (0,0))]]))):
  JL J Q b n L ds (.inRegion ops (i::rest)::k) cs (Aj E H S):=
 JL.alloc O hw U Y Z λr K=>by rw [(Fp K).1];exact h r (Fp K).2
theorem JS.store{bk off:Nat}{c:Av_}(j:Nat)(U:ops[i]? =some ⟨d,.store t x y,ty,p,af,g⟩)(hw:AM L ops ⟨d,.store t x y,ty,p,af,g⟩=some true)(Y:BH b n ⟨d,.store t x y,ty,p,af,g⟩=true)(Z:Aq E H S)
  (ac:ev L x=some (.pointer (some ⟨bk,off,none⟩))) (ag:ev L y=some v) (al:Bj P t=some v.cells.size) (am:∀u∈v.cells.toList,CJ u=true) (K:S[j]? =some [(bk,.cells c e (0,0))]) (hle:off+v.cells.size<=c.size)
  (h:Aq E H (S.set j [(bk,.cells (A4 c off v.cells.toList) e (0,0))])->JL J Q b n (Au L d undef) ds (.inRegion ops rest::k) cs (Aj E H (S.set j [(bk,.cells (A4 c off v.cells.toList) e (0,0))]))):
  JL J Q b n L ds (.inRegion ops (i::rest)::k) cs (Aj E H S):=by
 obtain⟨ap,aq⟩:=GL Z K;rw [ap];refine JL.store (S.set j []).flatten.length U hw Y aq ac ag al am (c:=c) (e:=e) (by simp) hle λO=>?_;have aw:((S.set j []).flatten++ [(bk,Obj.cells c e (0,0))]).set (S.set j []).flatten.length (bk,.cells (A4 c off v.cells.toList) e (0,0))=(S.set j []).flatten++ [(bk,.cells (A4 c off v.cells.toList) e (0,0))]:=IB _ _ _ _;rw [aw] at O ⊢;obtain⟨a0,a1⟩:=IF K O;rw [a0];exact h a1
theorem JS.drop{todo:Li_}{seg:Seg}(j:Nat)(Y:Aq E H S)(K:S[j]? =some seg)(h:Aq E H (S.set j [])->JL J Q b n L ds todo cs (Aj E H (S.set j []))):JL J Q b n L ds todo cs (Aj E H S):=by
 obtain⟨Z,O⟩:=GL Y K;rw [Z];have ac:Nd E H ((S.set j []).flatten++ []):=by rw [List.append_nil];exact Kd.Nd.left O
 obtain⟨U,ag⟩:=IF (seg':= []) K ac;refine JL.drop (S.set j []).flatten (λq al=>List.mem_iff_getElem?.1 (List.mem_append_left _ al)) O ?_;have am:(S.set j []).flatten++ []=(S.set j []).flatten:=List.append_nil _;rw [am] at U;rw [U];exact h ag
theorem CF{todo:Li_}{bk:Nat}{c:Av_}{f:Nat×Nat}(j:Nat)(O:Aq E H S)(U:S[j]? =some [(bk,.cells c e f)])
  (h:∀E',Le E E'->At E' bk 0 c.toList->Aq E' H (S.set j [])->JL J Q b n L ds todo cs (Aj E' H (S.set j []))):JL J Q b n L ds todo cs (Aj E H S):=by
 obtain⟨Y,Z⟩:=GL O U;rw [Y];have ac:((S.set j []).flatten++ [(bk,Obj.cells c e f)])[(S.set j []).flatten.length]? =some (bk,Obj.cells c e f):=by simp
 refine JL.freeze (S.set j []).flatten.length Z ac λE' hle ag K=>?_;have al:((S.set j []).flatten++ [(bk,Obj.cells c e f)]).eraseIdx (S.set j []).flatten.length=(S.set j []).flatten:=by rw [List.eraseIdx_append_of_length_le (Nat.le_refl _)];simp
 rw [al] at K ⊢;exact h E' hle ⟨_,_,_,ag,λi w hi=>by simpa using hi⟩ K
theorem B6{α:Type}{pp:Rp α}{todo:Li_}{a:Option Addr}{c:Nat}{seg:Seg}{xs:List α}(j:Nat)(U:OL e pp E a c seg xs)(am:Aq E H S)(ap:S[j]? =some seg)
  (h:∀E',Le E E'->Al pp E' a c xs->Aq E' H (S.set j [])->JL J Q b n L ds todo cs (Aj E' H (S.set j []))):JL J Q b n L ds todo cs (Aj E H S):=by
 obtain⟨wss,U,ac,ag⟩:=U;have aq:∀ad:Addr,a=some ad->ad.spot=none:=λad K=>by
  rcases U with⟨O,_⟩ | ⟨bk,f,O,_⟩
  ·rw [O] at K;cases K
  ·rw [O] at K;cases K;rfl
 obtain⟨O,aw⟩:=GL am ap;rw [O];refine U2 U aw λE' hle a0 a1=>h E' hle ?_ a1;obtain⟨a2,a3,Y,a4,a9,Z⟩:=a0;obtain⟨rfl,-,rfl⟩:a=a2/\xs.length=xs.length/\c=a3:=by
  simp only [Value.slice.injEq] at Y;exact⟨Y.1,V,Y.2.2⟩
 refine⟨a4,?_⟩;rcases Z with Z | ⟨bk,off,f,a5,fr,a6,g2,a7⟩
 ·exact .inl ⟨List.eq_nil_of_length_eq_zero Z,λad K=> .inl (aq ad K)⟩
 ·refine .inr ⟨bk,off,a6,λi x al=>?_⟩;have a8:i<wss.length:=by rw [ac];exact(List.getElem?_eq_some_iff.1 al).1
  have hw:=List.getElem?_eq_getElem a8;refine⟨wss[i],pp.Ah hle (ag i x _ al hw),f,a5,fr,g2,λm w hm=>?_⟩;rw [Nat.add_assoc];exact a7 _ w (Kf (Ia ac ag) hw m w hm)
theorem Va{α:Type}{pp:Rp α}{wss:List (Lv_)}{xs:List α}{x:α}{ws:Lv_}(O:wss.length=xs.length)(h:∀(i:Nat) x ws,xs[i]? =some x->wss[i]? =some ws->pp.r E ws x)(U:pp.r E ws x):
  ∀(i:Nat) y us,(xs++ [x])[i]? =some y->(wss++ [ws])[i]? =some us->pp.r E us y:=by
 intro i y us K hu;rcases Nat.lt_or_ge i xs.length with hi | hi
 ·rw [List.getElem?_append_left hi] at K;rw [List.getElem?_append_left (by omega)] at hu;exact h i y us K hu
 ·rw [List.getElem?_append_right hi] at K;rw [List.getElem?_append_right (by omega),O] at hu;cases hm:i - xs.length with
  | zero=>rw [hm] at K hu;simp at K hu;subst K hu;exact U
  | succ m=>rw [hm] at K;simp at K
theorem Vo{α:Type}{pp:Rp α}{t1 t2:TypeId}{U c:Nat}{a:Option Addr}{seg:Seg}{xs:List α}{xv:α}{am:Nat}{d1:Tmp}{ats:Array TypeId}{Y:TypeId}{Z:String}{ac:Ae_}{g':On_}{z:Value}(j:Nat)
  (aw:ops[i]? =some ⟨some d1,.buildSlice t2 1 #[(0,y)],Y,Z,ac,g'⟩) (hw:AM L ops ⟨some d1,.buildSlice t2 1 #[(0,y)],Y,Z,ac,g'⟩=some true) (a0:BH b n ⟨some d1,.buildSlice t2 1 #[(0,y)],Y,Z,ac,g'⟩=true)
  (a1:ops[am]? =some ⟨d,.call ⟨.builtin .append,#[x,.tmp d1],ats⟩,ty,p,af,g⟩) (a2:∀w,AM (Au L (some d1) w) ops ⟨d,.call ⟨.builtin .append,#[x,.tmp d1],ats⟩,ty,p,af,g⟩=some true) (a3:BH b n ⟨d,.call ⟨.builtin .append,#[x,.tmp d1],ats⟩,ty,p,af,g⟩=true)
  (a4:∀w,ev (Au L (some d1) w) x=some (.slice a xs.length c)) (a5:ev L y=some v) (a6:ats[0]? =some t) (a7:ats[1]? =some t1) (a8:P.underlying t=some (.slice e)) (a9:P.underlying t1=some (.slice e)) (bb:P.underlying t2=some (.slice e)) (be:Bj P e=some pp.n) (hb:FJ P e=some U) (bi:zeroOf P e=some z) (bo:z.cells.size=pp.n)
  (bv:0<U) (bw:U<=64) (b0:0<pp.n) (b1:pp.n<=64) (b2:xs.length+1<=2 ^ 40) (ag:OL e pp E a c seg xs) (al:pp.r E v.cells.toList xv) (b3:Aq E H S) (ap:S[j]? =some seg)
  (h:∀w K O seg',OL e pp E K O seg' (xs++ [xv])->Aq E H (S.set j seg')->JL J Q b n (Au (Au L (some d1) w) d (.slice K (xs++ [xv]).length O)) ds (.inRegion ops rest::k) cs (Aj E H (S.set j seg'))):
  JL J Q b n L ds (.inRegion ops (i::am::rest)::k) cs (Aj E H S):=by
 obtain⟨wss,ag,aq,b4⟩:=ag;obtain⟨b5,b6⟩:=GL b3 ap;rw [b5];have ca:v.cells.size=pp.n:=by simpa using pp.len al
 refine VC aw hw a0 a1 a2 a3 a4 a5 a6 a7 a8 a9 bb be hb bi bo bv bw ca b0 b1 b2 (pp.one al) ag b6 λw K O cc ce ci=>?_;obtain⟨co,cp⟩:=IF ap ci;rw [co];have hlen:(xs++ [xv]).length=xs.length+1:=by simp
 have:=h w K O cc ⟨wss++ [v.cells.toList],by rw [hlen,List.flatten_append];simpa using ce,by simp [aq],Va aq b4 al⟩ cp;rw [hlen] at this;exact this
theorem Sz{α:Type}{pp:Rp α}{a:Option Addr}{c:Nat}{xs:List α}{xv:α}{m:Int}(O:Al pp E a c xs)(hm:ix xs m=some xv)
  (U:ops[i]? =some ⟨d,.indexAddr t x y,ty,p,af,g⟩) (hw:AM L ops ⟨d,.indexAddr t x y,ty,p,af,g⟩=some true) (Y:BH b n ⟨d,.indexAddr t x y,ty,p,af,g⟩=true)
  (Z:ev L x=some (.slice a xs.length c)) (ac:ev L y=some (.int kd m)) (ag:P.underlying t=some (.slice e)) (al:Bj P e=some pp.n)
  (h:∀bk o ws,pp.r E ws xv->At E bk o ws->JL J Q b n (Au L d (.pointer (some ⟨bk,o,none⟩))) ds (.inRegion ops rest::k) cs (Aj E H S)):
  JL J Q b n L ds (.inRegion ops (i::rest)::k) cs (Aj E H S):=by
 obtain⟨m,rfl,hm⟩:=FV hm;have am:m<xs.length:=(List.getElem?_eq_some_iff.1 hm).1;obtain⟨a0,⟨rfl,_⟩ | ⟨bk,off,rfl,ap⟩⟩:=O
 ·simp at am
 obtain⟨ws,aq,aw⟩:=ap m xv hm;refine A1 (v:= .pointer (some ⟨bk,off+m*pp.n,none⟩)) U hw Y (λρ K=>?_) (h bk _ ws aq aw);have:=LD (P:=P) (s:=Aj E H S) (d:=d) (ty:=ty) (p:=p) (af:=af) (g:=g) ag al (K x _ Z) (K y _ ac) ⟨by omega,by omega⟩;rw [Dw rfl] at this;simpa using this
theorem At.Je{bk o j:Nat}{ws:Lv_}{w:Value}(h:At E bk o ws)(K:ws[j]? =some w):(Aj E H S).cell? ⟨bk,o+j,none⟩=some w:=h.cell K
theorem At.Pk{bk o:Nat}{ws:Lv_}(h:At E bk o ws):∀j v,ws[j]? =some v->(Aj E H S).cell? (Addr.add ⟨bk,o,none⟩ j)=some v:=h.cells
theorem Br{todo:Li_}(I:Env->St->Prop){c:Code}(K:∀L s,I L s->JL J Q b n L ds todo cs s)(h:(∀L s,I L s->JL J Q b n L ds todo cs s)->JL J Q b n L ds (.code c::todo) cs s):JL J Q b n L ds (.code c::todo) cs s:=h K
theorem G6{K:List Nat}{todo:Li_}(l:List Nat)(I:Env->St->Prop)(O:∀L s,I L s->JL J Q b n L ds (.inRegion ops l::todo) cs s)(h:(∀L s,I L s->JL J Q b n L ds (.inRegion ops l::todo) cs s)->JL J Q b n L ds (.inRegion ops K::todo) cs s):JL J Q b n L ds (.inRegion ops K::todo) cs s:=h O
theorem RN{K A:Type}{c:Code}{body:K->Option (Bm K A)}{f:Nat}{O:K}{a:A}(U:iter body f O=some a)(I:Env->St->K->Prop)(Z:I L s O)
  (round:∀L s x,I L s x->(∀Y,body x=some (.done Y)->Y=a)->(∃st,body x=some st)->(∀L' s' x',I L' s' x'->body x=some (.more x')->JL J Q b n L' ds (.inLoop c::k) cs s')->JL J Q b n L ds (.code c:: .inLoop c::k) cs s):
  JL J Q b n L ds (.code (.loop c)::k) cs s:=by
 refine H7 ?_
 induction f generalizing L s O with
 | zero=>cases U
 | succ f ac=>
  refine round L s O Z (λY h=>Q9 U h) (Q5 U) λL' s' x' ag hb=>JL.again (ac (Ra U hb) ag)
def AL(J:Judge P)(f:FuncId)(args:Lv_)(E:LH)(B:Seg)(R:Value->LH->Seg->Prop):Prop:=
 ∀H,Nd E H B->Ew J f args.toArray (mk E H B) (λv s'=>∃E' B',Le E E'/\R v E' B'/\Nd E' H B'/\s'=mk E' H B')
theorem AL.enter{f:FuncId}{fn:Func}{c:Code}{vs:Lv_}{B:Seg}{R:Value->LH->Seg->Prop}(O:P.funcs[f]? =some fn)(hb:fn.body=some c)(U:vs.length<=fn.ntmps)
  (h:∀(Q:Gs_) (K:Frame) (cs:Lf_) (H:LH),Aq E H [B]->(∀v E' S' B',Le E E'->S'.flatten=B'->R v E' B'->Aq E' H S'->J.ok Q (G (K.finish v) cs) (Aj E' H S'))->JL J Q (base f) fn.ntmps (Ga 0 vs) [] [.code c] (K::cs) (Aj E H [B])):AL J f vs E B R:=λH Y=>
 Ew.enter O hb U λQ K cs Z=>by
  have ac:mk E H B=Aj E H [B]:=by unfold Aj;simp
  rw [ac];exact h Q K cs H (by unfold Aq;simpa using Y) λv E' S' B' hle ag al am=>by
   subst ag;exact Z v _ ⟨E',S'.flatten,hle,al,am,rfl⟩
theorem AL.Ah{f:FuncId}{vs:Lv_}{B:Seg}{R K:Value->LH->Seg->Prop}(h:AL J f vs E B R)(U:∀v E' B',Le E E'->R v E' B'->K v E' B'):AL J f vs E B K:=λH Y=>
 (h H Y).Ah λv s' ⟨E',B',O,Z,ac,ag⟩=>⟨E',B',O,U v E' B' O Z,ac,ag⟩
theorem FE{H:LH}:∀{A B:List (Nat×Obj)},Be (A++B) H=Be A (Be B H)
 | [],_=>rfl
 | (c,o)::A,B=>by
  funext x
  simp only [List.cons_append,Be]
  split
  ·rfl
  ·rw [FE]
theorem MV{H:LH}{x:Nat}:∀{B:List (Nat×Obj)},(∀p∈B,p.1≠x)->Be B H x=H x
 | [],_=>rfl
 | (c,u)::B,K=>by
  have O:x≠c:=λe=>K (c,u) (by simp) e.symm
  simp only [Be,if_neg O]
  exact MV λp U=>K p (List.mem_cons_of_mem _ U)
theorem Nd.front{A B:List (Nat×Obj)}(h:Nd E H (A++B)):Nd E (Be B H) A:=by
 rw [Nd.iff] at h ⊢;obtain⟨K,U⟩:=h;rw [List.map_append,List.nodup_append] at K;refine⟨K.1,λq O=>⟨(U q (List.mem_append_left _ O)).1,?_⟩⟩;rw [MV λr Y e=>K.2.2 q.1 (List.mem_map_of_mem O) r.1 (List.mem_map_of_mem Y) e.symm];exact(U q (List.mem_append_left _ O)).2
theorem Nd.glue{A B:List (Nat×Obj)}(h:Nd E (Be B H) A)(U:Nd E H B):Nd E H (A++B):=by
 have Y:=U;rw [Nd.iff] at h U ⊢;rw [List.map_append,List.nodup_append];have key:∀q∈A,∀r∈B,q.1≠r.1:=λq K r O e=>by
  have:=(h.2 q K).2;rw [e] at this;obtain⟨i,hi⟩:=Y.mem (b:=r.1) (o:=r.2) O;rw [I3 Y hi] at this;cases this
 refine⟨⟨h.1,U.1,λx Z y ac e=>?_⟩,λq K=>?_⟩
 ·obtain⟨q,K,rfl⟩:=List.mem_map.1 Z;obtain⟨r,O,rfl⟩:=List.mem_map.1 ac;exact key q K r O e
 ·rcases List.mem_append.1 K with K | K
  ·refine⟨(h.2 q K).1,?_⟩;have:=(h.2 q K).2
   rwa [MV λr O e=>key q K r O e.symm] at this
  ·exact U.2 q K
theorem RE{f:FuncId}{args:Array Operand}{ats:Array TypeId}{vs:Lv_}{seg:Seg}{R:Value->LH->Seg->Prop}(j:Nat)
  (ag:AL J f vs E seg R) (al:ops[i]? =some ⟨d,.call ⟨.value (.func f),args,ats⟩,ty,p,af,g⟩) (hw:AM L ops ⟨d,.call ⟨.value (.func f),args,ats⟩,ty,p,af,g⟩=some true) (am:((b.kind != .early)&&Bf n d)=true) (hb:Dm P f=true)
  (ap:evs L args.toList=some vs) (K:Aq E H S) (O:S[j]? =some seg) (aq:∀v E' seg',Le E E'->R v E' seg'->Aq E' H (S.set j seg')->JL J Q b n (Au L d v) ds (.inRegion ops rest::k) cs (Aj E' H (S.set j seg'))):
  JL J Q b n L ds (.inRegion ops (i::rest)::k) cs (Aj E H S):=by
 have U:S.flatten.Perm (seg++(S.set j []).flatten):=(Ei (seg':=seg) O).1.trans List.perm_append_comm;have Y:Nd E H (seg++(S.set j []).flatten):=Nd.perm K U;have aw:Aj E H S=mk E (Be (S.set j []).flatten H) seg:=by
  rw [show Aj E H S=mk E H S.flatten from rfl,ET K U];unfold mk;rw [FE]
 rw [aw];refine Xb al hw am hb ap (ag _ (Nd.front Y)) ?_;rintro v s' ⟨E',B',hle,a0,a1,rfl⟩;have e2:mk E' (Be (S.set j []).flatten H) B'=mk E' H (B'++(S.set j []).flatten):=by unfold mk;rw [FE]
 have a2:Nd E H (S.set j []).flatten:=by
  have:=Y;rw [Nd.iff] at this ⊢;rw [List.map_append,List.nodup_append] at this;exact⟨this.1.2.1,λq a3=>this.2 q (List.mem_append_right _ a3)⟩
 refine R3 V λ⟨w,a4⟩=>?_;have a5:Nd E' H (S.set j []).flatten:=a2.grow λx a6=>by
  have a7:=a4.d x a6;have a8:Be B' (Be (S.set j []).flatten H) x=none:=a7;exact(Hz a8).1
 have Z:Nd E' H (B'++(S.set j []).flatten):=Nd.glue a1 a5;rw [e2];have ac:(B'++(S.set j []).flatten).Perm (S.set j B').flatten:=List.perm_append_comm.trans (Ei O).2.symm;rw [ET Z ac];exact aq v E' B' hle a0 (Nd.perm Z ac)
theorem JS.call{f:FuncId}{args:Array Operand}{ats:Array TypeId}{vs:Lv_}{R:Value->LH->Seg->Prop}
  (U:AL J f vs E [] R) (Y:ops[i]? =some ⟨d,.call ⟨.value (.func f),args,ats⟩,ty,p,af,g⟩) (hw:AM L ops ⟨d,.call ⟨.value (.func f),args,ats⟩,ty,p,af,g⟩=some true) (Z:((b.kind != .early)&&Bf n d)=true) (hb:Dm P f=true)
  (ac:evs L args.toList=some vs) (K:Aq E H S) (ag:∀v E' seg',Le E E'->R v E' seg'->Aq E' H (S++ [seg'])->JL J Q b n (Au L d v) ds (.inRegion ops rest::k) cs (Aj E' H (S++ [seg']))):
  JL J Q b n L ds (.inRegion ops (i::rest)::k) cs (Aj E H S):=by
 have al:Aj E H S=Aj E H (S++ [[]]):=by unfold Aj;simp
 rw [al];refine RE S.length U Y hw Z hb ac (by unfold Aq at K ⊢;rw [GI,List.append_nil];exact K) (by simp) λv E' seg' hle am O=>?_;have e2:(S++ [[]]).set S.length seg'=S++ [seg']:=IB _ _ _ _;rw [e2] at O ⊢;exact ag v E' seg' hle am O
theorem H8{todo:Li_}{S':List Seg}(K:S'.flatten=S.flatten)(O:Aq E H S)(h:Aq E H S'->JL J Q b n L ds todo cs (Aj E H S')):JL J Q b n L ds todo cs (Aj E H S):=by
 unfold Aj Aq at*;rw [K] at h;exact h O
end
def Ld(P:Program)(t:TypeId)(a:Addr)(s:St)(v:Value):Prop:=lp P (loadVar t a) s (λu s'=>u=v/\s'=s) (λ_ _=>False)
theorem Ld.one{P:Program}{t:TypeId}{a:Addr}{s:St}{v:Value}(K:De P t=some false)(h:s.cell? a=some v):Ld P t a s v:=QB K h ⟨V,V⟩
theorem Ld.many{P:Program}{t:TypeId}{a:Addr}{s:St}{vs:Lv_}(K:De P t=some true)(O:Bj P t=some vs.length)(h:∀j v,vs[j]? =some v->s.cell? (a.add j)=some v):Ld P t a s (.agg vs.toArray):=Qy K O h ⟨V,V⟩
def RV(P:Program)(L:Env)(s:St):List ResultVar->Lv_->Prop
 | [],[]=>True
 | .tmp t::rs,v::vs=>look L t=some v/\RV P L s rs vs
 | .cell a t::rs,v::vs=>(∃ad,look L a=some (.pointer (some ad))/\Ld P t ad s v)/\RV P L s rs vs
 | _,_=>False
def Nb:Lv_->Value
 | [v]=>v
 | vs=> .tuple vs.toArray
theorem Vs(vs:Lv_):(if h:vs.toArray.size=1 then vs.toArray[0] else Value.tuple vs.toArray)=Nb vs:=by
 match vs with
 | []=>rfl
 | [v]=>rfl
 | a::b::c=>simp [Nb]
theorem By.list{P:Program}{f:FuncId}{fn:Func}{n:Nat}{L:Env}{s:St}{rs:List ResultVar}{vs:Lv_}(Z:P.funcs[f]? =some fn)(ac:fn.results.toList=rs)(h:RV P L s rs vs):By P f L n s (Nb vs):=by
 refine⟨fn,Z,λT U=>?_⟩;unfold results;rw [Array.mapM_eq_mapM_toList,ac];have key:∀(rs:List ResultVar) (acc vs:Lv_) {Q:Lv_->St->Prop} {X:Halt->St->Prop},RV P L s rs vs->Q (acc.reverse++vs) s->lp P (List.mapM.loop (m:=Sem) (λr=>match r with
   | .tmp t=>pure (T.getD t undef)
   | .cell a t=>do loadVar t (← asAddr (T.getD a undef))) rs acc) s Q X:=by
  intro rs
  induction rs with
  | nil=>
   intro acc vs Q X h k;cases vs with
   | nil=>simp only [List.append_nil] at k;exact k
   | cons v vs=>cases h
  | cons r rs Y=>
   intro acc vs Q X h k;cases vs with
   | nil=>cases r <;> cases h
   | cons v vs=>
    cases r with
    | tmp t=>
     obtain⟨K,O⟩:=h;have:=U.at_ t v K;simp only [List.mapM.loop];rw [this];exact Y (v::acc) vs O (by simpa using k)
    | cell a t=>
     obtain⟨⟨ad,K,ag⟩,O⟩:=h;have:=U.at_ a _ K;simp only [List.mapM.loop];rw [this];refine As _ _ (DG _ (show lp P (loadVar t ad) s _ _ from ag) ?_ (λ_ _ h=>h.elim));rintro u s' ⟨rfl,rfl⟩;exact Y (u::acc) vs O (by simpa using k)
 refine As _ _ (As (x:=List.mapM.loop (m:=Sem) _ rs []) (f:=λr=>pure r.toArray) ?_);refine key rs [] vs h ?_;simp only [List.reverse_nil,List.nil_append,lp,pure];exact⟨Vs vs,trivial⟩
section
variable {g:Goroutine}
theorem Em{seg:Seg}(j:Nat)(Z:Aq E H S)(U:S[j]? =some seg)(h:Aq E H (S.set j [])->J.ok Q g (Aj E H (S.set j []))):J.ok Q g (Aj E H S):=by
 obtain⟨ac,K⟩:=GL Z U;have ag:Nd E H ((S.set j []).flatten++ []):=by rw [List.append_nil];exact Kd.Nd.left K
 obtain⟨aq,al⟩:=IF (seg':= []) U ag;refine J.ghost (s₀:=Aj E H (S.set j [])) ⟨λ_ _ h=>h,λx o am=>?_,λ_ _ h=> .inl h,V⟩ (h al);have Y:Be (S.set j []).flatten H x=some o:=am;show(Aj E H S).H x=some o;rw [ac];show Be ((S.set j []).flatten++seg) H x=some o;rw [show Be ((S.set j []).flatten++seg) H=Be (seg++(S.set j []).flatten) H from QP K List.perm_append_comm,FE];by_cases hm:∃p∈seg,p.1=x
 ·exfalso;obtain⟨p,O,e⟩:=hm;have ap:=Nd.front (Nd.perm K List.perm_append_comm);have:=((Nd.iff.1 ap).2 p O).2;rw [e,Y] at this;cases this
 ·rw [MV λp O e=>hm ⟨p,O,e⟩];exact Y
end
section
variable {b:Frame}{n:Nat}
variable {x:Operand}{v:Value}{i:Nat}
theorem QY{ρ:Operand->Value}{len:Nat}{K:Array (Nat×Operand)}:execOp ρ ⟨d,.buildSlice t len K,ty,p,af,g⟩=(do pure (Next.value (← Instr.buildSlice t len (K.map λ(j,x)=>(j,ρ x))))):=by
 simp only [execOp]
theorem Vh(v:Av_)(off:Nat)(c:Av_):v.zipIdx.foldl (λcs (x,j)=>cs.setIfInBounds (off+j) x) c=A4 c off v.toList:=by
 rw [← Array.foldl_toList,Array.toList_zipIdx];have key:∀(l:Lv_) (st:Nat) (c:Av_),List.foldl (λcs (p:Value×Nat)=>cs.setIfInBounds (off+p.2) p.1) c (l.zipIdx st)=A4 c (off+st) l:=by
  intro l
  induction l with
  | nil=>intro st c;rfl
  | cons x l K=>intro st c;simp only [List.zipIdx_cons,List.foldl_cons,A4];rw [K];rfl
 exact key v.toList 0 c
def Kp(place:Nat->Option (Nat×Nat))(cells:Av_):List (Nat×Value)->Option (Av_)
 | []=>some cells
 | (i,v)::rest=>match place i with
  | none=>none
  | some (off,size)=>if v.cells.size=size/\off+v.cells.size<=cells.size then Kp place (A4 cells off v.cells.toList) rest else none
theorem fill_eq{place:Nat->Option (Nat×Nat)}:∀{vs:List (Nat×Value)} {cells:Av_},Instr.fill place cells vs=Kp place cells vs
 | [],_=>rfl
 | (i,v)::rest,cells=>by
  simp only [Instr.fill,Kp]
  cases place i with
  | none=>rfl
  | some q=>
   obtain⟨off,size⟩:=q
   simp only
   by_cases h:v.cells.size=size/\off+v.cells.size<=cells.size
   ·rw [if_pos h,if_neg (by simp only [Bool.or_eq_true,decide_eq_true_eq,ne_eq];omega),fill_eq,Vh]
   ·rw [if_neg h,if_pos (by simp only [Bool.or_eq_true,decide_eq_true_eq,ne_eq];omega)]
theorem RQ{n:Nat}:∀(vs:Lv_) (st:Nat) (cells:Av_),(∀v∈vs,v.cells.size=n)->cells.size=(st+vs.length)*n->
  ∃U,Kp (λi=>some (i*n,n)) cells ((vs.zipIdx st).map λq=>(q.2,q.1))=some U/\U.toList=cells.toList.take (st*n)++(vs.map (·.cells.toList)).flatten
 | [],st,cells,_,K=>⟨cells,rfl,by simp only [List.length_nil,Nat.add_zero] at K;simp [← K,List.take_of_length_le]⟩
 | v::vs,st,cells,Y,K=>by
  have O:=Y v (by simp)
  have hle:st*n+n<=cells.size:=by
   rw [K,List.length_cons];have:(st+1)*n<=(st+(vs.length+1))*n:=Nat.mul_le_mul_right _ (by omega);rw [Nat.succ_mul] at this;exact this
  obtain⟨Z,ac,ag⟩:=RQ vs (st+1) (A4 cells (st*n) v.cells.toList) (λu hu=>Y u (List.mem_cons_of_mem _ hu)) (by rw [LC,K,List.length_cons];congr 1;omega);refine⟨Z,?_,?_⟩
  ·simp only [List.zipIdx_cons,List.map_cons,Kp];rw [if_pos ⟨O,by omega⟩];exact ac
  ·rw [ag,Nat.succ_mul];have:=Oq cells (st*n) v.cells.toList (by simp [O];omega);rw [show v.cells.toList.length=n by simp [O]] at this;rw [this];simp
def KB{α:Type}(pp:Rp α)(E:LH):List α->Lv_->Prop
 | [],[]=>True
 | x::xs,v::vs=>pp.r E v.cells.toList x/\KB pp E xs vs
 | _,_=>False
theorem KB.at{E:LH}{α:Type}{pp:Rp α}:∀{xs:List α} {vs:Lv_},KB pp E xs vs->∀(i:Nat) x v,xs[i]? =some x->vs[i]? =some v->pp.r E v.cells.toList x
 | [],_,_,_,_,_,h,_=>by simp at h
 | _::_,[],h,_,_,_,_,_=>h.elim
 | x::xs,v::vs,h,0,y,u,K,hu=>by simp at K hu;subst K hu;exact h.1
 | x::xs,v::vs,h,i+1,y,u,K,hu=>KB.at h.2 i y u (by simpa using K) (by simpa using hu)
theorem Tm{E0:LH}{ρ:Operand->Value}{K:Next->St->Prop}(a1:EA L ρ){α:Type}{pp:Rp α}{len:Nat}{Z:Array (Nat×Operand)}(vs:Lv_){z:Value}(xs:List α)
  (a2:P.underlying t=some (.slice e)) (a3:Bj P e=some pp.n) (a4:zeroOf P e=some z) (a5:decide (0<len*pp.n/\len*pp.n<=2 ^ 24)=true)
  (a6:Z.toList.mapM (λq=>(ev L q.2).map λv=>(q.1,v))=some ((vs.zipIdx 0).map λq=>(q.2,q.1)))
  (U:vs.length=len) (Y:xs.length=len) (a7:KB pp E0 xs vs) (a8:Aq E H S)
  (h:∀r seg,OL e pp E0 (some ⟨r,0,none⟩) len seg xs->Aq E H (S++ [seg])->K (.value (.slice (some ⟨r,0,none⟩) xs.length len)) (Aj E H (S++ [seg]))):
  lp P (execOp ρ ⟨d,.buildSlice t len Z,ty,p,af,g⟩) (Aj E H S) K (λ_ _=>False):=by
 have am:=a7.at;have a9:(Z.map λ(j,x)=>(j,ρ x)).toList=(vs.zipIdx 0).map λq=>(q.2,q.1):=by
  have key:∀(l:List (Nat×Operand)) (vs:List (Nat×Value)),l.mapM (λq=>(ev L q.2).map λv=>(q.1,v))=some vs->l.map (λ(j,x)=>(j,ρ x))=vs:=by
   intro l
   induction l with
   | nil=>intro vs h;simp at h;subst h;rfl
   | cons q l ac=>
    intro vs h;simp only [List.mapM_cons,bind] at h;cases ag:ev L q.2 with
    | none=>rw [ag] at h;simp at h
    | some w=>
     rw [ag] at h;simp only [Option.map_some,Option.bind_some] at h;obtain⟨bb,be,ap⟩:=bind_some h;simp at ap;subst ap;simp [ac bb be,a1 _ _ ag]
  rw [Array.toList_map];exact key _ _ a6
 have aq:∀v∈vs,v.cells.size=pp.n:=λv O=>by
  obtain⟨i,hi⟩:=List.mem_iff_getElem?.1 O;have bi:i<xs.length:=by rw [Y,← U];exact(List.getElem?_eq_some_iff.1 hi).1
  simpa using pp.len (am i _ v (List.getElem?_eq_getElem bi) hi)
 rw [QY];refine As _ _ ?_;unfold Instr.buildSlice;refine As _ _ (Cg a2 ?_);refine As _ _ (EJ a3 ?_);have bw:=of_decide_eq_true a5;rw [if_neg (by omega),if_neg (by omega)];refine As (x:=zeroValue e) _ (HA a4 ?_);rw [H3,a9];obtain⟨cells,bo,al⟩:=RQ vs 0 ((Array.range (len*pp.n)).map (z.cells[· % z.cells.size]!)) aq (by simp [U]);simp only [fill_eq,bo];simp only [Nat.zero_mul,List.take_zero,List.nil_append] at al;refine As _ _ (I0 a8 λr aw=>?_);rw [(Fp aw).1];have a0:cells.size=len*pp.n:=by
  have:cells.toList.length=len*pp.n:=by
   rw [al];have:∀(vs:Lv_),(∀v∈vs,v.cells.size=pp.n)->(vs.map (·.cells.toList)).flatten.length=vs.length*pp.n:=by
    intro vs
    induction vs with
    | nil=>intro _;simp
    | cons v vs ac=>intro h;rw [List.map_cons,List.flatten_cons,List.length_append,ac λw hw=>h w (List.mem_cons_of_mem _ hw),List.length_cons,Nat.succ_mul,Nat.add_comm];simp [h v (by simp)]
   rw [this vs aq,U]
  simpa using this
 have:=h r [(r,.cells cells e (0,0))] ⟨vs.map (·.cells.toList),.inr ⟨r,cells,rfl,rfl,a0,by omega,by rw [← al,List.take_of_length_le (by simp [a0,Y])]⟩,by simp [U,Y],λi x ws bv hw=>by
  rw [List.getElem?_map] at hw
  cases O:vs[i]? with
  | none=>rw [O] at hw;cases hw
  | some v=>rw [O] at hw;cases hw;exact am i x v bv O⟩ (Fp aw).2
 rw [Y] at this;exact this
theorem FU{α:Type}{pp:Rp α}{len:Nat}{K:Array (Nat×Operand)}(vs:Lv_){z:Value}(xs:List α)
  (O:ops[i]? =some ⟨d,.buildSlice t len K,ty,p,af,g⟩) (hw:AM L ops ⟨d,.buildSlice t len K,ty,p,af,g⟩=some true) (U:BH b n ⟨d,.buildSlice t len K,ty,p,af,g⟩=true)
  (Y:P.underlying t=some (.slice e)) (Z:Bj P e=some pp.n) (ac:zeroOf P e=some z) (ag:decide (0<len*pp.n/\len*pp.n<=2 ^ 24)=true)
  (al:K.toList.mapM (λq=>(ev L q.2).map λv=>(q.1,v))=some ((vs.zipIdx 0).map λq=>(q.2,q.1)))
  (am:vs.length=len) (ap:xs.length=len) (aq:KB pp E xs vs) (aw:Aq E H S)
  (h:∀r seg,OL e pp E (some ⟨r,0,none⟩) len seg xs->Aq E H (S++ [seg])->JL J Q b n (Au L d (.slice (some ⟨r,0,none⟩) xs.length len)) ds (.inRegion ops rest::k) cs (Aj E H (S++ [seg]))):
  JL J Q b n L ds (.inRegion ops (i::rest)::k) cs (Aj E H S):=by
 exact JL.op O hw U λρ a0=>Tm a0 vs xs Y Z ac ag al am ap aq aw h
theorem OL.get{α:Type}{pp:Rp α}{a:Option Addr}{c:Nat}{seg:Seg}{xs:List α}{m:Nat}{x:α}(Z:OL e pp E a c seg xs)(hm:xs[m]? =some x):
  ∃bk f ws,a=some ⟨bk,0,none⟩/\seg= [(bk,.cells f e (0,0))]/\pp.r E ws x/\(∀j w,ws[j]? =some w->f[m*pp.n+j]? =some w)/\(m+1)*pp.n<=f.size/\
   ∀(x':α) (ws':Lv_),pp.r E ws' x'->OL e pp E a c [(bk,.cells (A4 f (m*pp.n) ws') e (0,0))] (xs.set m x'):=by
 obtain⟨wss,Z,am,ac⟩:=Z;have ap:m<xs.length:=(List.getElem?_eq_some_iff.1 hm).1;rcases Z with⟨ag,aq,_⟩ | ⟨bk,f,ag,aq,a5,aw,a0⟩
 ·omega
 have hw:wss[m]? =some wss[m]:=List.getElem?_eq_getElem (by omega);have a1:=Ia am ac;have hle:(m+1)*pp.n<=xs.length*pp.n:=Nat.mul_le_mul_right _ ap;have a8:xs.length*pp.n<=c*pp.n:=Nat.mul_le_mul_right _ aw;refine⟨bk,f,wss[m],ag,aq,ac m x _ hm hw,λj w K=>?_,by omega,λx' ws' a2=>?_⟩
 ·have:=Kf a1 hw j w K;rw [a0,List.getElem?_take] at this;split at this
  ·simpa using this
  ·cases this
 ·have a3:ws'.length=pp.n:=pp.len a2;refine⟨wss.set m ws',.inr ⟨bk,_,ag,V,by rw [LC];exact a5,by simpa using aw,?_⟩,by simpa using am,λi y us Y hu=>?_⟩
  ·simp only [List.length_set];have key:∀(wss:List (Lv_)) (m:Nat) (hm:m<wss.length),(∀ws∈wss,ws.length=pp.n)->∀j,(wss.set m ws').flatten[j]? =if m*pp.n<=j/\j<(m+1)*pp.n then ws'[j - m*pp.n]? else wss.flatten[j]? :=by
    intro wss
    induction wss with
    | nil=>intro m hm;simp at hm
    | cons us wss al=>
     intro m hm a4 j;have hu:us.length=pp.n:=a4 us (by simp);cases m with
     | zero=>
      simp only [List.set_cons_zero,List.flatten_cons,Nat.zero_mul,Nat.zero_le,true_and,Nat.zero_add,Nat.one_mul,Nat.sub_zero];split
      ·rename_i K;rw [List.getElem?_append_left (by omega)]
      ·rename_i K;rw [List.getElem?_append_right (by omega),List.getElem?_append_right (by omega),a3,hu]
     | succ m=>
      simp only [List.set_cons_succ,List.flatten_cons];have O:(m+1)*pp.n=m*pp.n+pp.n:=Nat.succ_mul _ _;have e2:(m+1+1)*pp.n=(m+1)*pp.n+pp.n:=Nat.succ_mul _ _;rcases Nat.lt_or_ge j us.length with K | K
      ·rw [List.getElem?_append_left K,List.getElem?_append_left K,if_neg (by omega)]
      ·rw [List.getElem?_append_right K,List.getElem?_append_right K,al m (by simpa using hm) (λws a6=>a4 ws (List.mem_cons_of_mem _ a6))];by_cases U:m*pp.n<=j - us.length/\j - us.length<(m+1)*pp.n
       ·rw [if_pos U,if_pos (by omega)];congr 1;omega
       ·rw [if_neg U,if_neg (by omega)]
   have a7:∀(vs:Lv_) (c:Av_) (off:Nat),off+vs.length<=c.size->∀j,(A4 c off vs)[j]? =if off<=j/\j<off+vs.length then vs[j - off]? else c[j]? :=by
    intro vs
    induction vs with
    | nil=>intro c off _ j;simp [A4];omega
    | cons w vs al=>
     intro c off U j;simp only [A4,List.length_cons] at*;rw [al _ _ (by simp;omega)];by_cases O:j=off
     ·subst O;rw [if_neg (by omega),if_pos (by omega),Nat.sub_self,List.getElem?_cons_zero,Array.getElem?_setIfInBounds_self_of_lt (by omega)]
     ·by_cases e2:off+1<=j/\j<off+1+vs.length
      ·rw [if_pos e2,if_pos (by omega)];have:j - off=(j - (off+1))+1:=by omega
       rw [this];simp
      ·rw [if_neg e2,if_neg (by omega),Array.getElem?_setIfInBounds_ne (by omega)]
   apply List.ext_getElem?;intro j;have O:(m+1)*pp.n=m*pp.n+pp.n:=Nat.succ_mul _ _;have t1:(A4 f (m*pp.n) ws').toList[j]? =(A4 f (m*pp.n) ws')[j]? :=Array.getElem?_toList;have t2:f.toList[j]? =f[j]? :=Array.getElem?_toList;rw [key wss m (by omega) a1,List.getElem?_take,t1,a7 ws' f (m*pp.n) (by omega),a0,List.getElem?_take,t2,a3];by_cases U:m*pp.n<=j/\j<(m+1)*pp.n
   ·rw [if_pos U,if_pos (by omega),if_pos (by omega)]
   ·rw [if_neg U,if_neg (show ¬(m*pp.n<=j/\j<m*pp.n+pp.n) by omega)]
  ·rw [List.getElem?_set] at Y hu;by_cases O:m=i
   ·subst O;rw [if_pos rfl,if_pos ap] at Y;rw [if_pos rfl,if_pos (by omega)] at hu;cases Y;cases hu;exact a2
   ·rw [if_neg O] at hu Y;exact ac i y us Y hu
theorem I6{α:Type}{pp:Rp α}{a:Option Addr}{c:Nat}{seg:Seg}{xs:List α}{xv:α}{m:Int}(j:Nat)(O:OL e pp E a c seg xs)(hm:ix xs m=some xv)(U:S[j]? =some seg)
  (Y:ops[i]? =some ⟨d,.indexAddr t x y,ty,p,af,g⟩) (hw:AM L ops ⟨d,.indexAddr t x y,ty,p,af,g⟩=some true) (Z:BH b n ⟨d,.indexAddr t x y,ty,p,af,g⟩=true)
  (ac:ev L x=some (.slice a xs.length c)) (ag:ev L y=some (.int kd m)) (al:P.underlying t=some (.slice e)) (am:Bj P e=some pp.n)
  (h:∀bk o f ws,S[j]? =some [(bk,.cells f e (0,0))]->pp.r E ws xv->(∀j w,ws[j]? =some w->f[o+j]? =some w)->o+pp.n<=f.size->(∀(x':α) (ws':Lv_),pp.r E ws' x'->OL e pp E a c [(bk,.cells (A4 f o ws') e (0,0))] (xs.set m.toNat x'))->o=m.toNat*pp.n->a=some ⟨bk,0,none⟩->
   JL J Q b n (Au L d (.pointer (some ⟨bk,o,none⟩))) ds (.inRegion ops rest::k) cs (Aj E H S)):
  JL J Q b n L ds (.inRegion ops (i::rest)::k) cs (Aj E H S):=by
 obtain⟨m,rfl,hm⟩:=FV hm;have a3:m<xs.length:=(List.getElem?_eq_some_iff.1 hm).1;obtain⟨bk,f,ws,rfl,rfl,ap,aq,aw,a0⟩:=OL.get O hm;have a1:(m+1)*pp.n=m*pp.n+pp.n:=Nat.succ_mul _ _;have a2:m*pp.n+pp.n<=f.size:=by rw [← a1];exact aw
 refine A1 (v:= .pointer (some ⟨bk,m*pp.n,none⟩)) Y hw Z (λρ K=>?_) (h bk (m*pp.n) f ws U ap aq a2 (by simpa using a0) (by simp) V);have:=LD (P:=P) (s:=Aj E H S) (d:=d) (ty:=ty) (p:=p) (af:=af) (g:=g) al am (K x _ ac) (K y _ ag) ⟨by omega,by omega⟩;rw [Dw rfl] at this;simpa using this
end
section
variable {b:Frame}{n:Nat}
variable {x:Operand}{v:Value}{i:Nat}
theorem JS.perm{todo:Li_}{S':List Seg}(K:S.flatten.Perm S'.flatten)(O:Aq E H S)(h:Aq E H S'->JL J Q b n L ds todo cs (Aj E H S')):JL J Q b n L ds todo cs (Aj E H S):=by
 have U:Aq E H S':=Nd.perm O K;rw [show Aj E H S=Aj E H S' from ET O K];exact h U
theorem F7{todo:Li_}{A B:Seg}(j:Nat)(K:S[j]? =some (A++B))(O:Aq E H S)(h:Aq E H (S.set j A++ [B])->JL J Q b n L ds todo cs (Aj E H (S.set j A++ [B]))):JL J Q b n L ds todo cs (Aj E H S):=by
 refine JS.perm ?_ O h;have U:=(Ei (seg':=A) K).1;have Y:=(Ei (seg':=A) K).2;rw [GI];refine U.trans ?_;have Z:=Y.symm.append_right B
 rwa [List.append_assoc] at Z
theorem JS.swap{todo:Li_}{A B:Seg}(j l:Nat)(O:S[j]? =some A)(U:S[l]? =some B)(Y:(j==l)=false)(Z:Aq E H S)(h:Aq E H ((S.set j B).set l A)->JL J Q b n L ds todo cs (Aj E H ((S.set j B).set l A))):JL J Q b n L ds todo cs (Aj E H S):=by
 have K:j≠l:=by simpa using Y
 refine JS.perm ?_ Z h;have a1:=(Ei (seg':=B) O).1;have ac:(S.set j [])[l]? =some B:=by rw [List.getElem?_set_ne K];exact U
 have ag:=(Ei (seg':=A) ac).1;have al:((S.set j B).set l A)[l]? =some A:=by
  have:l<(S.set j B).length:=by rw [List.length_set];exact(List.getElem?_eq_some_iff.1 U).1
  rw [List.getElem?_set,if_pos rfl,if_pos this]
 have c1:=(Ei (seg':=A) al).1;rw [List.set_set] at c1;have am:((S.set j B).set l [])[j]? =some B:=by
  have:j<S.length:=(List.getElem?_eq_some_iff.1 O).1;rw [List.getElem?_set_ne (Ne.symm K)];simp [this]
 have c2:=(Ei (seg':=B) am).1;have ap:(((S.set j B).set l []).set j [])=((S.set j []).set l []):=by
  rw [List.set_comm _ _ K,List.set_set,List.set_comm _ _ K.symm]
 rw [ap] at c2;exact a1.trans ((ag.append_right A).trans ((c2.symm.append_right A).trans c1.symm))
theorem G4{bk off:Nat}{c:Av_}{f:Nat×Nat}{vs:Lv_}{seg:Seg}(j:Nat)(K:Aq E H S)(O:S[j]? =some ((bk,.cells c e f)::seg))(U:(c.toList.drop off).take vs.length=vs):∀i v,vs[i]? =some v->(Aj E H S).cell? (Addr.add ⟨bk,off,none⟩ i)=some v:=
 Vg K O λi v hi=>by
  have Y:i<vs.length:=(List.getElem?_eq_some_iff.1 hi).1
  rw [← U,List.getElem?_take_of_lt Y,List.getElem?_drop,Array.getElem?_toList] at hi
  exact hi
theorem LF(vs:Lv_):∀(c:Av_) (off:Nat),off+vs.length<=c.size->∀j,(A4 c off vs)[j]? =if off<=j/\j<off+vs.length then vs[j - off]? else c[j]? :=by
 induction vs with
 | nil=>intro c off _ j;simp [A4];omega
 | cons w vs K=>
  intro c off U j;simp only [A4,List.length_cons] at*;rw [K _ _ (by simp;omega)];by_cases O:j=off
  ·subst O;rw [if_neg (by omega),if_pos (by omega),Nat.sub_self,List.getElem?_cons_zero,Array.getElem?_setIfInBounds_self_of_lt (by omega)]
  ·by_cases e2:off+1<=j/\j<off+1+vs.length
   ·rw [if_pos e2,if_pos (by omega)];have:j - off=(j - (off+1))+1:=by omega
    rw [this];simp
   ·rw [if_neg e2,if_neg (by omega),Array.getElem?_setIfInBounds_ne (by omega)]
end
theorem elim_inl{α β K:Type}{f:α->Option K}{g:β->Option K}{x:α}{r:K}(h:Sum.elim f g (.inl x)=some r):f x=some r:=h
theorem elim_inr{α β K:Type}{f:α->Option K}{g:β->Option K}{x:β}{r:K}(h:Sum.elim f g (.inr x)=some r):g x=some r:=h
def room{α:Type}(xs:List α)(x:α):Option (List α):=if xs.length+1<=2 ^ 40 then some (xs++ [x]) else none
theorem V0{α:Type}{xs ys:List α}{x:α}(h:room xs x=some ys):xs.length+1<=2 ^ 40/\ys=xs++ [x]:=by
 unfold room at h;split at h
 ·rename_i hb;exact⟨hb,(Option.some.inj h).symm⟩
 ·cases h
def N9(a b:Int):Option Int:=if b=0 then none else some (a.tmod b)
def NW(a b:Nat):Option Nat:=if b=0 then none else some (a % b)
section
variable {x:Operand}{v:Value}{m:Int}{a b:Nat}
theorem Yd{r:Int}(K:ρ x=iV m)(O:ρ y=iV m')(h:N9 m m'=some r):Yl P ⟨d,.binOp .rem t x y u,ty,p,af,g⟩ ρ s (iV r):=by
 unfold N9 at h;split at h
 ·cases h
 ·rename_i U;cases h;exact Yl.rem K O U
theorem XE{r:Nat}(K:ρ x= .int .u64 (a:Int))(O:ρ y= .int .u64 (b:Int))(h:NW a b=some r):Yl P ⟨d,.binOp .rem t x y u,ty,p,af,g⟩ ρ s (.int .u64 (r:Int)):=by
 unfold NW at h;split at h
 ·cases h
 ·rename_i U;cases h;exact Yz K O U
theorem Yl.min2{ats:Array TypeId}(K:ρ x=iV m)(O:ρ y=iV m'):Yl P ⟨d,.call ⟨.builtin .min,#[x,y],ats⟩,ty,p,af,g⟩ ρ s (iV (min m m')):=by
 have e:(if m'<m then m' else m)=min m m':=by split <;> omega
 simp [Yl,execOp,lp,pure,bind,Sem.bind,K,O,resolve,invoke,builtin,Builtin.min_,Builtin.min2,e]
theorem Yl.max2{ats:Array TypeId}(K:ρ x=iV m)(O:ρ y=iV m'):Yl P ⟨d,.call ⟨.builtin .max,#[x,y],ats⟩,ty,p,af,g⟩ ρ s (iV (max m m')):=by
 have e:(if m<m' then m' else m)=max m m':=by split <;> omega
 simp [Yl,execOp,lp,pure,bind,Sem.bind,K,O,resolve,invoke,builtin,Builtin.max_,Builtin.max2,e]
end
def Li(P:Program):List Field->List (Nat×Nat)->Prop
 | f::K,(o,n)::O=>f.offset=o/\Bj P f.type=some n/\Li P K O
 | [],[]=>True
 | _,_=>False
theorem Li.mapM{P:Program}:∀{K:List Field} {O:List (Nat×Nat)},Li P K O->K.mapM (λf=>(Bj P f.type).map λn=>(f.offset,n))=some O
 | [],[],_=>rfl
 | [],_::_,h=>h.elim
 | _::_,[],h=>h.elim
 | f::K,(o,n)::O,h=>by
  obtain⟨U,Y,Z⟩:=h
  simp only [List.mapM_cons,bind,Y,Option.map_some,Option.bind_some,Li.mapM Z,U];rfl
theorem OE{L:Env}{ρ:Operand->Value}(h:EA L ρ):∀{l:List (Nat×Operand)} {vs:List (Nat×Value)},l.mapM (λq=>(ev L q.2).map λv=>(q.1,v))=some vs->l.map (λ(j,x)=>(j,ρ x))=vs
 | [],vs,e=>by simp at e;subst e;rfl
 | q::l,vs,e=>by
  simp only [List.mapM_cons,bind] at e
  cases K:ev L q.2 with
  | none=>rw [K] at e;simp at e
  | some w=>
   rw [K] at e
   simp only [Option.map_some,Option.bind_some] at e
   obtain⟨Y,U,O⟩:=bind_some e
   simp at O;subst O
   simp [OE h U,h _ _ K]
theorem CI{P:Program}{s:St}{ρ:Operand->Value}{L:Env}{d:Option Tmp}{t ty:TypeId}{p:String}{af:Ae_}{g:On_}{z:Value}{K:Array Field}{O:Array (Nat×Operand)}{vs:List (Nat×Value)}{cells:Av_}(places:List (Nat×Nat))(h:EA L ρ)(U:zeroOf P t=some z)(Y:P.underlying t=some (.struct K))(Z:Li P K.toList places)
  (ac:O.toList.mapM (λq=>(ev L q.2).map λv=>(q.1,v))=some vs) (ag:Kp (places.toArray[·]?) z.cells vs=some cells):Yl P ⟨d,.build t O,ty,p,af,g⟩ ρ s (.agg cells):=
 Yl.build (places:=places.toArray) U Y (by simpa using Z.mapM) (OE h ac) (by rw [fill_eq];exact ag)
theorem OL.again{α:Type}{e:TypeId}{pp:Rp α}{E:LH}{a:Option Addr}{bk c o:Nat}{f:Av_}{xs:List α}{m:Int}{x:α}(O:OL e pp E a c [(bk,.cells f e (0,0))] xs)(hm:ix xs m=some x)(U:o=m.toNat*pp.n):
  ∃ws,pp.r E ws x/\(∀j w,ws[j]? =some w->f[o+j]? =some w)/\o+pp.n<=f.size/\∀(x':α) (ws':Lv_),pp.r E ws' x'->OL e pp E a c [(bk,.cells (A4 f o ws') e (0,0))] (xs.set m.toNat x'):=by
 obtain⟨m,rfl,hm⟩:=FV hm;obtain⟨ap,aq,ws,aw,K,Y,Z,ac,ag⟩:=OL.get O hm;simp only [List.cons.injEq,Prod.mk.injEq,Obj.cells.injEq,and_true] at K;obtain⟨rfl,rfl⟩:=K;have al:(m+1)*pp.n=m*pp.n+pp.n:=Nat.succ_mul _ _;have am:o=m*pp.n:=by simpa using U
 subst am;exact⟨ws,Y,Z,by rw [← al];exact ac,by simpa using ag⟩
section
variable {b:Frame}{n:Nat}
variable {x:Operand}{v:Value}{i:Nat}
theorem JS.app{α:Type}{pp:Rp α}{t1 t2:TypeId}{K c:Nat}{a:Option Addr}{seg:Seg}{xs ys:List α}{xv:α}{Z:Nat}{d1:Tmp}{ats:Array TypeId}{O:TypeId}{U:String}{Y:Ae_}{g':On_}{z:Value}(j:Nat)(al:room xs xv=some ys)
  (am:ops[i]? =some ⟨some d1,.buildSlice t2 1 #[(0,y)],O,U,Y,g'⟩) (hw:AM L ops ⟨some d1,.buildSlice t2 1 #[(0,y)],O,U,Y,g'⟩=some true) (ap:BH b n ⟨some d1,.buildSlice t2 1 #[(0,y)],O,U,Y,g'⟩=true)
  (aq:ops[Z]? =some ⟨d,.call ⟨.builtin .append,#[x,.tmp d1],ats⟩,ty,p,af,g⟩) (aw:∀w,AM (Au L (some d1) w) ops ⟨d,.call ⟨.builtin .append,#[x,.tmp d1],ats⟩,ty,p,af,g⟩=some true) (a0:BH b n ⟨d,.call ⟨.builtin .append,#[x,.tmp d1],ats⟩,ty,p,af,g⟩=true)
  (a1:∀w,ev (Au L (some d1) w) x=some (.slice a xs.length c)) (a2:ev L y=some v) (a3:ats[0]? =some t) (a4:ats[1]? =some t1) (a5:P.underlying t=some (.slice e)) (a6:P.underlying t1=some (.slice e)) (a7:P.underlying t2=some (.slice e)) (a8:Bj P e=some pp.n) (hb:FJ P e=some K) (a9:zeroOf P e=some z) (bb:z.cells.size=pp.n)
  (be:0<K) (bi:K<=64) (bo:0<pp.n) (bv:pp.n<=64) (bw:OL e pp E a c seg xs) (b0:pp.r E v.cells.toList xv) (b1:Aq E H S) (b2:S[j]? =some seg)
  (h:∀w ac ag seg',OL e pp E ac ag seg' ys->Aq E H (S.set j seg')->JL J Q b n (Au (Au L (some d1) w) d (.slice ac ys.length ag)) ds (.inRegion ops rest::k) cs (Aj E H (S.set j seg'))):
  JL J Q b n L ds (.inRegion ops (i::Z::rest)::k) cs (Aj E H S):=by
 obtain⟨b3,rfl⟩:=V0 al;exact Vo j am hw ap aq aw a0 a1 a2 a3 a4 a5 a6 a7 a8 hb a9 bb be bi bo bv b3 bw b0 b1 b2 h
theorem BB{todo:Li_}{S':List Seg}(K:S=S')(O:Aq E H S)(h:Aq E H S'->JL J Q b n L ds todo cs (Aj E H S')):JL J Q b n L ds todo cs (Aj E H S):=by
 subst K;exact h O
theorem Rd{todo:Li_}(K:Aq E H S)(h:Aq E H (S++ [[]])->JL J Q b n L ds todo cs (Aj E H (S++ [[]]))):JL J Q b n L ds todo cs (Aj E H S):=
 H8 (S':=S++ [[]]) (by rw [GI,List.append_nil]) K h
end
theorem Ew.Kv{P:Program}{J:Judge P}{f:FuncId}{args:Av_}{s:St}{R:Value->St->Prop}(h:Ew J f args s R)(U:∀v s',R v s'->s'.q=false):Ew J f args s (λv s'=>R v s'/\∃w,Fits s' w):=λQ c cs Y=>
 h Q c cs λv s' K=>by
  by_cases O:∃w,Fits s' w
  ·exact Y v s' ⟨K,O⟩
  ·exact J.step ⟨V,λw f=>absurd ⟨w,f⟩ O,λe=>by have:=U v s' K;subst e;cases this⟩
def Az(l:List Nat):Nat->Bool:=λx=>l.contains x
section
variable {b:Frame}{n:Nat}{m fuel:Nat}
variable {x:Operand}{v:Value}{i:Nat}
def Ge(ops:Ao_)(listed:Array Bool)(m i:Nat):Bool:=match ops[i]? with
 | some oi=>decide (i<m)&&Region.noSelect ops&& !DY oi.op&&IG ops listed i oi&&HI ops listed&&listed.size==ops.size&&(Region.ready .any ops listed).contains i
 | none=>false
theorem WO(m:Nat){id:Nat}(hm:P.follows .mixedOrders=true)(K:(b.kind != .early)=true)
  (O:DL ops m=true) (h:DL ops m=true->AO J Q b n ds ops k cs m Df ops.size (Array.replicate ops.size false) L (Aj E H S)):JL J Q b n L ds (.code (.region id ops true)::k) cs (Aj E H S):=
 OR m Df V hm K (h O)
theorem QR{oi:Oper}{i:Nat}(hi:ops[i]? =some oi)(K:Ge ops listed m i=true):decide (i<m)=true/\Region.noSelect ops=true/\(!DY oi.op)=true/\IG ops listed i oi=true/\HI ops listed=true/\(listed.size==ops.size)=true/\(Region.ready .any ops listed).contains i=true:=by
 simp only [Ge,hi,Bool.and_eq_true] at K;obtain⟨⟨⟨⟨⟨⟨O,U⟩,Y⟩,Z⟩,ac⟩,ag⟩,al⟩:=K;exact⟨O,U,Y,Z,ac,ag,al⟩
theorem JG.val{oi:Oper}(i:Nat)(hi:ops[i]? =some oi)(K:DL ops m=true)(O:Ge ops listed m i=true)(U:s.q=false)
  (hw:AM L ops oi=some true) (Y:Bf n oi.dst=true) (Z:∀ρ,EA L ρ->∀s':St,(∀x o,(Bl D s).E x=some o->s'.E x=some o)->Yl P oi ρ s' v)
  (h:AO J Q b n ds ops k cs m D fuel (A8 listed i) (Au L oi.dst v) s):AO J Q b n ds ops k cs m D (fuel+1) listed L s:=
 let ⟨ac,ag,al,am,ap,aq,aw⟩:=QR hi O
 VE hi ac K ag al am ap aq aw U hw Y (λρ a0 s' _ a1=>Z ρ a0 s' a1) h
theorem bP{oi:Oper}(i:Nat)(hi:ops[i]? =some oi)(K:DL ops m=true)(O:Ge ops listed m i=true)(U:s.q=false)
  (hw:AM L ops oi=some false) (Y:Bf n oi.dst=true)
  (h:AO J Q b n ds ops k cs m D fuel (A8 listed i) (Au L oi.dst undef) s):AO J Q b n ds ops k cs m D (fuel+1) listed L s:=
 let ⟨Z,ac,ag,al,am,ap,aq⟩:=QR hi O
 VY hi Z K ac ag al am ap aq U hw Y h
theorem ZD{α:Type}{pp:Rp α}{a:Option Addr}{c:Nat}{xs:List α}{xv:α}{K:Int}(i:Nat)(Y:Al pp E a c xs)(O:ix xs K=some xv)
  (Z:ops[i]? =some ⟨d,.indexAddr t x y,ty,p,af,g⟩) (ac:DL ops m=true) (ag:Ge ops listed m i=true) (al:s.q=false)
  (hw:AM L ops ⟨d,.indexAddr t x y,ty,p,af,g⟩=some true) (am:Bf n d=true)
  (ap:ev L x=some (.slice a xs.length c)) (aq:ev L y=some (.int kd K)) (aw:P.underlying t=some (.slice e)) (a0:Bj P e=some pp.n)
  (h:∀bk o ws,pp.r E ws xv->At E bk o ws->AO J Q b n ds ops k cs m D fuel (A8 listed i) (Au L d (.pointer (some ⟨bk,o,none⟩))) s):
  AO J Q b n ds ops k cs m D (fuel+1) listed L s:=by
 obtain⟨K,rfl,O⟩:=FV O;have a1:K<xs.length:=(List.getElem?_eq_some_iff.1 O).1;obtain⟨a5,⟨rfl,_⟩ | ⟨bk,off,rfl,a2⟩⟩:=Y
 ·simp at a1
 obtain⟨ws,a3,a4⟩:=a2 K xv O;refine JG.val (v:= .pointer (some ⟨bk,off+K*pp.n,none⟩)) i Z ac ag al hw am (λρ U s' _=>?_) (h bk _ ws a3 a4);have:=LD (P:=P) (s:=s') (d:=d) (ty:=ty) (p:=p) (af:=af) (g:=g) aw a0 (U x _ ap) (U y _ aq) ⟨by omega,by omega⟩;rw [Dw rfl] at this;simpa using this
theorem JG.call{f:FuncId}{args:Array Operand}{ats:Array TypeId}{vs:Lv_}{R:Value->LH->Seg->Prop}(Y:AL J f vs E [] R)(Z:Region.ready .any ops listed= [i])
  (ac:ops[i]? =some ⟨d,.call ⟨.value (.func f),args,ats⟩,ty,p,af,g⟩) (ag:Bf n d=true) (hw:AM L ops ⟨d,.call ⟨.value (.func f),args,ats⟩,ty,p,af,g⟩=some true) (hb:Dm P f=true) (al:evs L args.toList=some vs) (am:Aq E H S)
  (ap:∀v E' seg',Le E E'->R v E' seg'->Aq E' H (S++ [seg'])->AO J Q b n ds ops k cs m Df fuel (A8 listed i) (Au L d v) (Aj E' H (S++ [seg']))):
  AO J Q b n ds ops k cs m Df (fuel+1) listed L (Aj E H S):=by
 have aq:=Ew.Kv (Y (Be S.flatten H) trivial) (by rintro v s' ⟨E',B',_,_,_,rfl⟩;rfl);refine AO.call V Z ac ag hw hb al aq ?_;rintro v a5 ⟨⟨E',B',hle,aw,a0,rfl⟩,w,a1⟩;have e2:mk E' (Be S.flatten H) B'=mk E' H (B'++S.flatten):=by unfold mk;rw [FE]
 have a2:Nd E' H S.flatten:=Nd.grow am λx K=>by
  have a3:=a1.d x K;have a4:Be B' (Be S.flatten H) x=none:=a3;exact(Hz a4).1
 have O:Nd E' H (B'++S.flatten):=Nd.glue a0 a2;have U:(B'++S.flatten).Perm (S++ [B']).flatten:=by rw [GI];exact List.perm_append_comm
 rw [e2,ET O U];exact⟨V,λx o K=>hle x o K,ap v E' B' hle aw (Nd.perm O U)⟩
end
theorem Nt{E H:LH}{S:List Seg}{j bk:Nat}{o:Obj}{seg:Seg}(K:Aq E H S)(O:S[j]? =some ((bk,o)::seg)):E bk=none:=by
 have hm:(bk,o)∈S.flatten:=List.mem_flatten.2 ⟨_,List.mem_of_getElem? O,by simp⟩;exact((Nd.iff.1 K).2 _ hm).1
def He{α:Type}(n:Int)(z:α):Option (List α):=if 0<=n/\n<=2 ^ 20 then some (List.replicate n.toNat z) else none
def Dy{α:Type}(xs ys:List α):Option (List α):=if xs.length+ys.length<=2 ^ 40 then some (xs++ys) else none
def HO{α:Type}(xs:List α)(lo hi:Int):Option (List α):=if 0<=lo/\lo<=hi/\hi<=xs.length then some ((xs.take hi.toNat).drop lo.toNat) else none
section
variable {x:Operand}{v:Value}{m:Int}{a b:Nat}
end
variable {L':Env}
section
variable {b:Frame}{n:Nat}
variable {x:Operand}{v:Value}{i:Nat}
theorem Wj{ρ:Operand->Value}:execOp ρ ⟨d,.makeSlice t x y,ty,p,af,g⟩=(do pure (Next.value (← Instr.makeSlice t (ρ x) (ρ y)))):=by
 simp only [execOp]
theorem Ow{α:Type}(w:List α):∀m:Nat,((List.replicate m w).flatten).length=m*w.length
 | 0=>by simp
 | m+1=>by rw [List.replicate_succ,List.flatten_cons,List.length_append,Ow w m,Nat.succ_mul,Nat.add_comm]
theorem Xv(z:Av_)(O:0<z.size):∀m:Nat,((Array.range (m*z.size)).map (z[· % z.size]!)).toList=(List.replicate m z.toList).flatten:=by
 intro m;apply List.ext_getElem?;intro j;simp only [Array.toList_map,Array.toList_range,List.getElem?_map];by_cases K:j<m*z.size
 ·rw [List.getElem?_range K];have Y:j / z.size<m:=(Nat.div_lt_iff_lt_mul O).2 K;have U:j % z.size<z.size:=Nat.mod_lt _ O;have hw:(List.replicate m z.toList)[j / z.size]? =some z.toList:=by simp [Y]
  have:=Kf (n:=z.size) (wss:=List.replicate m z.toList) (λws Z=>by rw [List.eq_of_mem_replicate Z];simp) hw (j % z.size) z[j % z.size] (by simp [U]);rw [show j / z.size*z.size+j % z.size=j from by rw [Nat.mul_comm];exact Nat.div_add_mod _ _] at this;rw [this];simp [U]
 ·have hlen:((List.replicate m z.toList).flatten).length=m*z.size:=by rw [Ow];simp
  rw [List.getElem?_eq_none (by simpa using K),List.getElem?_eq_none (by rw [hlen];omega)];rfl
theorem JS.make{α:Type}{pp:Rp α}{z:Value}{Z:α}{m:Int}{xs:List α}(U:He m Z=some xs)
  (aw:ops[i]? =some ⟨d,.makeSlice t x y,ty,p,af,g⟩) (hw:AM L ops ⟨d,.makeSlice t x y,ty,p,af,g⟩=some true) (a0:BH b n ⟨d,.makeSlice t x y,ty,p,af,g⟩=true)
  (a1:ev L x=some (iV m)) (Y:ev L y=some (iV m)) (a2:P.underlying t=some (.slice e)) (a3:Bj P e=some pp.n) {O:Nat} (hb:FJ P e=some O) (bv:O<=64) (a4:zeroOf P e=some z) (bw:0<pp.n) (ac:pp.r E z.cells.toList Z) (a5:Aq E H S)
  (h:∀r seg,OL e pp E (some ⟨r,0,none⟩) xs.length seg xs->Aq E H (S++ [seg])->JL J Q b n (Au L d (.slice (some ⟨r,0,none⟩) xs.length xs.length)) ds (.inRegion ops rest::k) cs (Aj E H (S++ [seg]))):
  JL J Q b n L ds (.inRegion ops (i::rest)::k) cs (Aj E H S):=by
 unfold He at U;split at U
 rotate_left
 ·cases U
 rename_i hm;cases U;refine JL.op aw hw a0 λρ ag=>?_;rw [Wj,ag x _ a1,ag y _ Y];refine As _ _ ?_;unfold Instr.makeSlice;refine As _ _ (Cg a2 ?_);simp only [asInt,H3];obtain⟨inf,a6,a7⟩:=OH hb;refine As (x:=typeInfo e) _ (Kc a6 ?_);simp only [a7,Jy (show -9223372036854775808<=m/\m<=9223372036854775807 by omega)];have b0:(O:Int)*m<=64*2 ^ 20:=by
  have al:(O:Int)*m<=64*m:=Int.mul_le_mul_of_nonneg_right (by omega) hm.1;omega
 have a8:((decide (m<0) || decide ((O:Int)*m>2 ^ 48)) || decide (m<0) || decide (m>m))=false:=by
  simp only [Bool.or_eq_false_iff,decide_eq_false_iff_not];omega
 rw [a8];simp only [Bool.false_eq_true,if_false];refine As (x:=askRoom _) _ ?_;have a9:∀{Q:Unit->St->Prop} {X:Halt->St->Prop} (w:Nat),Q () (Aj E H S)->lp P (askRoom w) (Aj E H S) Q X:=by
  intro Q X w am;unfold askRoom;split
  ·exact⟨.inl ⟨V,V⟩,am⟩
  ·exact am
 refine a9 _ (As (x:=Go.sizeOf e) _ (EJ a3 ?_));have ap:z.cells.size=pp.n:=by simpa using pp.len ac
 have fin:∀K:Av_,((Array.range (m.toNat*pp.n)).map (K[· % K.size]!)).toList=(List.replicate m.toNat z.cells.toList).flatten->lp P (do let a ← newRow e ((Array.range (m.toNat*pp.n)).map (K[· % K.size]!));pure (Value.slice (some a) m.toNat m.toNat)) (Aj E H S) (λa s'=>lp P (pure (Next.value a)) s' (λbb s'=>match bb with
   | .value v=>JL J Q b n (Au L d v) ds (.inRegion ops rest::k) cs s'
   | .skip=>JL J Q b n (Au L d undef) ds (.inRegion ops rest::k) cs s'
   | _=>False) (λ_ _=>False)) (λ_ _=>False):=by
  intro K be;refine As _ _ (I0 a5 λr aq=>?_);rw [(Fp aq).1];have b1:((Array.range (m.toNat*pp.n)).map (K[· % K.size]!)).size=m.toNat*pp.n:=by simp
  have:=h r _ ⟨List.replicate m.toNat z.cells.toList,.inr ⟨r,_,rfl,rfl,by simp,by simp,by
   rw [be,List.take_of_length_le (by rw [Ow];simp [ap])]⟩,by simp,λi y us Y hu=>by
    have:=List.mem_of_getElem? Y;have bi:=List.eq_of_mem_replicate this
    have:=List.mem_of_getElem? hu;have e2:=List.eq_of_mem_replicate this
    subst bi e2;exact ac⟩ (Fp aq).2
  simp only [List.length_replicate] at this;exact this
 split
 ·rename_i bo;have al:m.toNat=0:=by rcases Nat.mul_eq_zero.1 bo with h | h <;> omega
  exact fin #[] (by simp [al])
 ·refine As (x:=zeroValue e) _ (HA a4 ?_);refine fin z.cells ?_;rw [← ap];exact Xv z.cells (by omega) _
theorem O6{α:Type}{pp:Rp α}(O:ops[i]? =some ⟨d,.buildSlice t 0 #[],ty,p,af,g⟩)(hw:AM L ops ⟨d,.buildSlice t 0 #[],ty,p,af,g⟩=some true)(U:BH b n ⟨d,.buildSlice t 0 #[],ty,p,af,g⟩=true)
  (Y:P.underlying t=some (.slice e)) (Z:Bj P e=some pp.n) (ac:Aq E H S)
  (h:∀r seg,OL e pp E (some ⟨r,0,none⟩) 0 seg []->Aq E H (S++ [seg])->JL J Q b n (Au L d (.slice (some ⟨r,0,none⟩) 0 0)) ds (.inRegion ops rest::k) cs (Aj E H (S++ [seg]))):
  JL J Q b n L ds (.inRegion ops (i::rest)::k) cs (Aj E H S):=by
 refine JL.op O hw U λρ al=>?_;rw [QY];refine As _ _ ?_;unfold Instr.buildSlice;refine As _ _ (Cg Y ?_);refine As _ _ (EJ Z ?_);rw [if_neg (by omega),if_pos (by omega)];refine As (x:=pure #[]) _ ?_;simp only [lp,pure,List.map_toArray,List.map_nil,Instr.fill];refine As _ _ (I0 ac λr K=>?_);rw [(Fp K).1];exact h r _ ⟨[],.inr ⟨r,_,V,V,by simp,Nat.le_refl _,by simp⟩,V,λi x ws ag=>by simp at ag⟩ (Fp K).2
theorem Al.rows{α:Type}{pp:Rp α}{a:Option Addr}{c:Nat}{xs:List α}(U:Al pp E a c xs):∃wss:List (Lv_),wss.length=xs.length/\(∀(i:Nat) x ws,xs[i]? =some x->wss[i]? =some ws->pp.r E ws x)/\
  ((xs= []/\∀ad:Addr,a=some ad->ad.spot=none∨c=0)∨∃bk off,a=some ⟨bk,off,none⟩/\∀(i:Nat) ws,wss[i]? =some ws->At E bk (off+i*pp.n) ws):=by
 obtain⟨ag,U⟩:=U;rcases U with⟨rfl,Z⟩ | ⟨bk,off,rfl,ac⟩
 ·exact⟨[],V,λi x ws O=>by simp at O,.inl ⟨V,Z⟩⟩
 ·have Y:∀i:Fin xs.length,∃ws,pp.r E ws xs[i]/\At E bk (off+i*pp.n) ws:=λi=>ac i xs[i] (List.getElem?_eq_getElem i.2);refine⟨List.ofFn λi=>Classical.choose (Y i),by simp,λi x ws O hw=>?_,.inr ⟨bk,off,V,λi ws hw=>?_⟩⟩
  ·have K:i<xs.length:=(List.getElem?_eq_some_iff.1 O).1;simp [K] at hw;subst hw;rw [List.getElem?_eq_getElem K] at O;cases O;exact(Classical.choose_spec (Y ⟨i,K⟩)).1
  ·have K:i<xs.length:=by have:=(List.getElem?_eq_some_iff.1 hw).1;simpa using this
   simp [K] at hw;subst hw;exact(Classical.choose_spec (Y ⟨i,K⟩)).2
theorem LB{n:Nat}:∀{wss:List (Lv_)},(∀ws∈wss,ws.length=n)->wss.flatten.length=wss.length*n
 | [],_=>by simp
 | ws::wss,h=>by rw [List.flatten_cons,List.length_append,h ws (by simp),LB λw hw=>h w (List.mem_cons_of_mem _ hw),List.length_cons,Nat.succ_mul,Nat.add_comm]
theorem Ov{n:Nat}:∀{wss:List (Lv_)},(∀ws∈wss,ws.length=n)->∀{j:Nat} {w:Value},wss.flatten[j]? =some w->∃(i m:Nat) (ws:Lv_),wss[i]? =some ws/\ws[m]? =some w/\j=i*n+m
 | [],_,_,_,h=>by simp at h
 | us::wss,O,j,w,h=>by
  have hu:=O us (by simp)
  rw [List.flatten_cons] at h
  rcases Nat.lt_or_ge j us.length with K | K
  ·rw [List.getElem?_append_left K] at h
   exact⟨0,j,us,V,h,by simp⟩
  ·rw [List.getElem?_append_right K] at h;obtain⟨i,m,ws,U,Y,Z⟩:=Ov (λws hw=>O ws (List.mem_cons_of_mem _ hw)) h;exact⟨i+1,m,ws,by simpa using U,Y,by rw [Nat.succ_mul];omega⟩
theorem MP{α:Type}{pp:Rp α}{wss O:List (Lv_)}{xs ys:List α}(U:wss.length=xs.length)(h:∀(i:Nat) x ws,xs[i]? =some x->wss[i]? =some ws->pp.r E ws x)(Y:∀(i:Nat) x ws,ys[i]? =some x->O[i]? =some ws->pp.r E ws x):
  ∀(i:Nat) y us,(xs++ys)[i]? =some y->(wss++O)[i]? =some us->pp.r E us y:=by
 intro i y us K hu;rcases Nat.lt_or_ge i xs.length with hi | hi
 ·rw [List.getElem?_append_left hi] at K;rw [List.getElem?_append_left (by omega)] at hu;exact h i y us K hu
 ·rw [List.getElem?_append_right hi] at K;rw [List.getElem?_append_right (by omega),U] at hu;exact Y _ y us K hu
theorem Vt{e t t1:TypeId}{Z a2 l c m:Nat}{a:Option Addr}{blk:List (Nat×Obj)}{xs ys:Lv_}{i:Nat}{rest:List Nat}{d:Option Tmp}{x y:Operand}{ats:Array TypeId}{ty:TypeId}{p:String}{af:Ae_}{g:On_}{z:Value}{ax:Option Addr}{cx:Nat}{B1:List (Nat×Obj)}
  (be:ops[i]? =some ⟨d,.call ⟨.builtin .append,#[x,y],ats⟩,ty,p,af,g⟩) (hw:AM L ops ⟨d,.call ⟨.builtin .append,#[x,y],ats⟩,ty,p,af,g⟩=some true) (bi:BH b n ⟨d,.call ⟨.builtin .append,#[x,y],ats⟩,ty,p,af,g⟩=true)
  (bo:ev L x=some (.slice a l c)) (bv:ev L y=some (.slice ax m cx)) (bw:ats[0]? =some t) (b0:ats[1]? =some t1) (b1:P.underlying t=some (.slice e)) (b2:P.underlying t1=some (.slice e)) (b3:Bj P e=some Z) (hb:FJ P e=some a2) (b4:zeroOf P e=some z) (b5:z.cells.size=Z)
  (b6:0<a2) (ca:a2<=64) (cc:l+m<=2 ^ 40) (ce:∀w∈ys,CJ w=true) (aw:GS e Z a l c blk xs) (a3:Nd E H (B0++blk++B1)) (a4:HJ (mk E H (B0++blk++B1)) (.slice ax m cx) Z ys)
  (h:∀a8 a0 a5,GS e Z a8 (l+m) a0 a5 (xs++ys)->Nd E H (B0++a5)->JL J Q b n (Au L d (.slice a8 (l+m) a0)) ds (.inRegion ops rest::k) cs (mk E H (B0++a5))):
  JL J Q b n L ds (.inRegion ops (i::rest)::k) cs (mk E H (B0++blk++B1)):=by
 refine JL.op be hw bi λρ a9=>?_;rw [Lz,a9 x _ bo,a9 y _ bv];have ci:NZ (B0++blk++B1) B0.length e Z a l c xs:=by
  rcases aw with⟨K,Y,al,am,ac⟩ | ⟨bk,f,K,Y,al,am,ac⟩
  ·exact .inl ⟨K,Y,al,ac⟩
  ·refine .inr ⟨bk,f,K,?_,al,am,ac⟩;subst Y;simp
 have hlen:=aw.length;refine As _ _ (OF (pl:=B0.length) bw b0 b2 b1 b3 hb b4 b5 a3 ci a4 ce b6 cc ca ?_ ?_ ?_)
 ·
  intro bk f O a1 cJ cK co a6 a7 ag;rcases aw with⟨K,_⟩ | ⟨U,f0,K,Y,al,am,ac⟩
  ·rw [K] at a1;cases a1
  ·subst Y;have cp:U=bk:=by rw [K] at a1;simpa using a1
   subst cp;have ct:(B0++ [(U,Obj.cells f0 e (0,0))]++B1).set B0.length (U,.cells O e (0,0))=B0++ [(U,.cells O e (0,0))]++B1:=by
    rw [List.append_assoc,List.append_assoc];exact IB _ _ _ _
   rw [ct] at ag ⊢;have ap:Nd E H (B0++ [(U,.cells O e (0,0))]):=Kd.Nd.left ag;refine JL.drop (B0++ [(U,.cells O e (0,0))]) (λp aq=>?_) ag (h a c _ (.inr ⟨U,O,K,V,a6,co,a7.symm⟩) ap);exact List.mem_iff_getElem?.1 (List.mem_append_left _ aq)
 ·intro bb hm;rcases aw with⟨K,Y,al,am,ac⟩ | ⟨U,f0,K,_⟩
  ·subst hm;have cw:ys= []:=by
    cases ax with
    | none=>exact a4.2
    | some ad=>have:=a4.2.1;simp at this;exact this
   subst Y am ac cw;have ap:Nd E H (B0++ []):=Kd.Nd.left a3;exact JL.drop (B0++ []) (λp aq=>List.mem_iff_getElem?.1 (List.mem_append_left _ aq)) a3 (h none 0 [] (by simpa using GS.nil) ap)
  ·rw [K] at bb;cases bb
 ·
  intro r O a0 cy a6 a7 ag;have ap:Nd E H (B0++ [(r,.cells O e (0,0))]):=Kd.Nd.pick ag;refine JL.drop (B0++ [(r,.cells O e (0,0))]) (λp aq=>?_) ag (h (some ⟨r,0,none⟩) a0 _ (.inr ⟨r,O,V,V,a6,cy,a7.symm⟩) ap);refine List.mem_iff_getElem?.1 ?_;rcases List.mem_append.1 aq with q | q
  ·simp [q]
  ·exact List.mem_append_right _ q
theorem I5{α:Type}{pp:Rp α}{t1:TypeId}{al c cx:Nat}{a ax:Option Addr}{seg:Seg}{xs ys am:List α}{ats:Array TypeId}{z:Value}(j:Nat)(Y:Dy xs ys=some am)
  (a5:ops[i]? =some ⟨d,.call ⟨.builtin .append,#[x,y],ats⟩,ty,p,af,g⟩) (hw:AM L ops ⟨d,.call ⟨.builtin .append,#[x,y],ats⟩,ty,p,af,g⟩=some true) (a6:BH b n ⟨d,.call ⟨.builtin .append,#[x,y],ats⟩,ty,p,af,g⟩=true)
  (a7:ev L x=some (.slice a xs.length c)) (a8:ev L y=some (.slice ax ys.length cx)) (a9:ats[0]? =some t) (bb:ats[1]? =some t1) (be:P.underlying t=some (.slice e)) (bi:P.underlying t1=some (.slice e)) (bo:Bj P e=some pp.n) (hb:FJ P e=some al) (bv:zeroOf P e=some z) (bw:z.cells.size=pp.n)
  (b0:0<al) (b1:al<=64) (ap:OL e pp E a c seg xs) (aw:Al pp E ax cx ys) (b2:Aq E H S) (a0:S[j]? =some seg)
  (h:∀Z ac seg',OL e pp E Z ac seg' am->Aq E H (S.set j seg')->JL J Q b n (Au L d (.slice Z am.length ac)) ds (.inRegion ops rest::k) cs (Aj E H (S.set j seg'))):
  JL J Q b n L ds (.inRegion ops (i::rest)::k) cs (Aj E H S):=by
 unfold Dy at Y;split at Y
 rotate_left
 ·cases Y
 rename_i b3;cases Y;obtain⟨wss,ap,a1,b4⟩:=ap;obtain⟨b5,a2⟩:=GL b2 a0;obtain⟨ag,O,aq,U⟩:=aw.rows;have a3:=Ia O aq;rw [b5];have b6:∀w∈ag.flatten,CJ w=true:=λw hw=>by
  obtain⟨us,ca,hw⟩:=List.mem_flatten.1 hw;obtain⟨q,K⟩:=List.mem_iff_getElem?.1 ca;have cc:q<ys.length:=by rw [← O];exact(List.getElem?_eq_some_iff.1 K).1
  exact pp.one (aq q _ us (List.getElem?_eq_getElem cc) K) w hw
 have hlen:(xs++ys).length=xs.length+ys.length:=by simp
 have a4:HJ (mk E H ((S.set j []).flatten++seg)) (.slice ax ys.length cx) pp.n ag.flatten:=by
  rcases U with⟨U,cM⟩ | ⟨bk,off,rfl,U⟩
  ·subst U;have:ag= []:=List.eq_nil_of_length_eq_zero O;subst this;cases ax with
   | none=>exact⟨rfl,rfl⟩
   | some ad=>exact⟨.inr rfl,by simp,Nat.zero_le _,λq w K=>by simp at K⟩
  ·refine⟨.inl V,by rw [LB a3,O],aw.1,λq w K=>?_⟩;obtain⟨ce,m,ws,ci,e2,co⟩:=Ov a3 K;have:=(U ce ws ci).cell (H:=H) (B:=(S.set j []).flatten++seg) e2;subst co;rw [← Nat.add_assoc];exact this
 have cp:(S.set j []).flatten++seg=(S.set j []).flatten++seg++ []:=(List.append_nil _).symm;rw [cp] at a2 a4 ⊢;refine Vt a5 hw a6 a7 a8 a9 bb be bi bo hb bv bw b0 b1 b3 b6 ap a2 a4 λZ ac ct cw cy=>?_;obtain⟨cJ,cK⟩:=IF a0 cy;rw [cJ];have:=h Z ac ct ⟨wss++ag,by rw [hlen,List.flatten_append];exact cw,by simp [a1,O],MP a1 b4 aq⟩ cK;rw [hlen] at this;exact this
end
section
variable {b:Frame}{n:Nat}{m fuel:Nat}
variable {x:Operand}{v:Value}{i:Nat}
theorem Eh(h:Sub L' L)(k':AO J Q b n ds ops k cs m D fuel listed L' s):AO J Q b n ds ops k cs m D fuel listed L s:=λT K=>k' T (K.sub h)
theorem Gr{K:Nat}{O:Array Bool}(fuel:Nat)(listed:Array Bool)(I:Env->St->Prop)(U:∀L s,I L s->AO J Q b n ds ops k cs m D fuel listed L s)(h:(∀L s,I L s->AO J Q b n ds ops k cs m D fuel listed L s)->AO J Q b n ds ops k cs m D K O L s):AO J Q b n ds ops k cs m D K O L s:=h U
end
theorem bx{α:Type}{kk:Nat}{pp:Rp α}{E:LH}{bk o:Nat}{ws:Lv_}{xs:List α}{m:Int}{x:α}(O:(rA kk pp).r E ws xs)(h:At E bk o ws)(hm:ix xs m=some x):∃us,pp.r E us x/\At E bk (o+m.toNat*pp.n) us/\0<=m/\m<kk:=by
 obtain⟨U,wss,rfl,Y,K⟩:=O;obtain⟨m,rfl,hm⟩:=FV hm;have ag:m<xs.length:=(List.getElem?_eq_some_iff.1 hm).1;have hw:wss[m]? =some wss[m]:=List.getElem?_eq_getElem (by omega);refine⟨wss[m],K m x _ hm hw,?_,by omega,by omega⟩;obtain⟨f,e,fr,Z,g2⟩:=h;refine⟨f,e,fr,Z,λj w ac=>?_⟩;rw [Nat.add_assoc];exact g2 _ _ (Kf (Ia (Y.trans U.symm) K) hw j w ac)
variable {v':Value}
section
variable {x:Operand}{v:Value}
end
section
variable {b:Frame}{n:Nat}
variable {x:Operand}{i:Nat}
end
section
variable {x:Operand}{v:Value}
theorem VG{o:BinOp}{c K:Av_}(O:o= .eql∨o= .neq)(U:P.eqGuardType P.depth t=false){Q:Unit->St->Prop}{X:Halt->St->Prop}(k:Q () s):lp P (eqGuard o t x y (.agg c) (.agg K)) s Q X:=by
 rcases O with rfl | rfl <;> (simp [eqGuard,lp,bind,Sem.bind,program,pure,U];exact k)
end
section
variable (J:Judge P)(Q:Gs_)(b:Frame)(n:Nat)(ds:Ld_)(ops:Ao_)(k:Li_)(cs:Lf_)(m:Nat)(D:Nat->Bool)
def Take(fuel:Nat)(listed:Array Bool)(L:Env)(s:St)(i:Nat):Prop:=
 ∃o,ops[i]? =some o/\(!DY o.op)=true/\Bf n o.dst=true/\AM L ops o=some true/\∀ρ,EA L ρ->lp P (execOp ρ o) (Bl D s) (λO s'=>match O with
  | .value v=>AO J Q b n ds ops k cs m D fuel (A8 listed i) (Au L o.dst v) (Ci D s s')
  | .skip=>AO J Q b n ds ops k cs m D fuel (A8 listed i) (Au L o.dst undef) (Ci D s s')
  | .enter f args=>∃R,Ew J f args (Ci D s s') R/\∀v K,R v K->K.q=false/\(∀x o,(Bl D s).E x=some o->(Bl D K).E x=some o)/\AO J Q b n ds ops k cs m D fuel (A8 listed i) (Au L o.dst v) K
  | _=>False) (λ_ _=>False)
end
section
variable {b:Frame}{n:Nat}{m fuel:Nat}
variable {x:Operand}{v:Value}{i:Nat}
theorem OD(U:s.q=false){l:List Nat}(K:Region.ready .any ops listed=l)(Y:l≠ [])(h:∀i∈l,Take J Q b n ds ops k cs m D fuel listed L s i):AO J Q b n ds ops k cs m D (fuel+1) listed L s:=
 RI U (by rw [K];exact Y) λi hi o O=>by
  rw [K] at hi
  obtain⟨o',Z,ac,ag,al,am⟩:=h i hi
  obtain rfl:o'=o:=by rw [Z] at O;exact Option.some.inj O
  exact⟨ac,ag,true,al,λe=>(by cases e),λ_=>am⟩
theorem JG.one(K:s.q=false)(O:Region.ready .any ops listed= [i])(h:Take J Q b n ds ops k cs m D fuel listed L s i):AO J Q b n ds ops k cs m D (fuel+1) listed L s:=
 OD K O (by simp) (by simpa using h)
theorem F9{i j:Nat}(K:s.q=false)(O:Region.ready .any ops listed= [i,j])(hi:Take J Q b n ds ops k cs m D fuel listed L s i)(U:Take J Q b n ds ops k cs m D fuel listed L s j):AO J Q b n ds ops k cs m D (fuel+1) listed L s:=
 OD K O (by simp) (by intro q K;simp at K;rcases K with rfl | rfl <;> assumption)
end
theorem OL.bA{α:Type}{e:TypeId}{pp:Rp α}{E0 E H:LH}{S:List Seg}{a:Option Addr}{c j:Nat}{seg:Seg}{xs:List α}(U:OL e pp E0 a c seg xs)(ac:Aq E H S)(ag:S[j]? =some seg):∃wss:List (Lv_),HJ (Aj E H S) (.slice a xs.length c) pp.n wss.flatten/\wss.length=xs.length/\∀(i:Nat) x ws,xs[i]? =some x->wss[i]? =some ws->pp.r E0 ws x:=by
 obtain⟨wss,U,al,am⟩:=U;refine⟨wss,?_,al,am⟩;rcases U with⟨rfl,ap,Z,Y,K⟩ | ⟨bk,f,rfl,rfl,Z,Y,K⟩
 ·exact⟨ap,K⟩
 ·have hle:xs.length*pp.n<=f.size:=by rw [Z];exact Nat.mul_le_mul_right _ Y
  refine⟨.inl V,by rw [K];simp [hle],Y,λq w O=>?_⟩;rw [K,List.getElem?_take] at O;split at O
  ·refine BR ac ag ?_;simpa using O
  ·cases O
section
variable {x:Operand}
theorem Yf{E0:LH}{ρ:Operand->Value}{K:Next->St->Prop}{α:Type}{pp:Rp α}{t1:TypeId}{a4 c cx:Nat}{a ax:Option Addr}{seg:Seg}{xs ys a5:List α}{ats:Array TypeId}{z:Value}(j:Nat)(a1:Dy xs ys=some a5)
  (b0:ρ x= .slice a xs.length c) (b1:ρ y= .slice ax ys.length cx) (b2:ats[0]? =some t) (b3:ats[1]? =some t1) (b4:P.underlying t=some (.slice e)) (b5:P.underlying t1=some (.slice e)) (b6:Bj P e=some pp.n) (hb:FJ P e=some a4) (ca:zeroOf P e=some z) (cc:z.cells.size=pp.n)
  (ce:0<a4) (ci:a4<=64) (aw:OL e pp E0 a c seg xs) (co:∃Z:List (Lv_),HJ (Aj E H S) (.slice ax ys.length cx) pp.n Z.flatten/\Z.length=ys.length/\∀(i:Nat) x ws,ys[i]? =some x->Z[i]? =some ws->pp.r E0 ws x) (cp:Aq E H S) (be:S[j]? =some seg)
  (h:∀Y O g seg',OL e pp E0 Y O seg' a5->Aq E H (S.set j (g++seg'))->K (.value (.slice Y a5.length O)) (Aj E H (S.set j (g++seg')))):
  lp P (execOp ρ ⟨d,.call ⟨.builtin .append,#[x,y],ats⟩,ty,p,af,g⟩) (Aj E H S) K (λ_ _=>False):=by
 unfold Dy at a1;split at a1
 rotate_left
 ·cases a1
 rename_i ct;cases a1;obtain⟨Z,bi,a2,a6⟩:=co;obtain⟨wss,aw,bo,cw⟩:=aw;obtain⟨cy,a7⟩:=GL cp be;have cJ:=Ia a2 a6;have cK:∀w∈Z.flatten,CJ w=true:=λw hw=>by
  obtain⟨us,cM,hw⟩:=List.mem_flatten.1 hw;obtain⟨q,bv⟩:=List.mem_iff_getElem?.1 cM;have cO:q<ys.length:=by rw [← a2];exact(List.getElem?_eq_some_iff.1 bv).1
  exact pp.one (a6 q _ us (List.getElem?_eq_getElem cO) bv) w hw
 have hlen:(xs++ys).length=xs.length+ys.length:=by simp
 rw [cy] at bi ⊢;rw [Lz,b0,b1];have a8:∀{Y O seg'},GS e pp.n Y (xs.length+ys.length) O seg' (wss.flatten++Z.flatten)->OL e pp E0 Y O seg' (xs++ys):=λcP=>
  ⟨wss++Z,by rw [hlen,List.flatten_append];exact cP,by simp [bo,a2],MP bo cw a6⟩
 have fin:∀Y O g seg',OL e pp E0 Y O seg' (xs++ys)->Nd E H ((S.set j []).flatten++(g++seg'))->K (.value (.slice Y (xs.length+ys.length) O)) (mk E H ((S.set j []).flatten++(g++seg'))):=λY O g seg' cQ ag=>by
  obtain⟨cR,cT⟩:=IF be ag;rw [cR];have:=h Y O g seg' cQ cT;rw [hlen] at this;exact this
 have cV:NZ ((S.set j []).flatten++seg) (S.set j []).flatten.length e pp.n a xs.length c wss.flatten:=by
  rcases aw with⟨U,ac,a0,am,ap⟩ | ⟨bk,f,U,ac,a0,am,ap⟩
  ·exact .inl ⟨U,ac,a0,ap⟩
  ·refine .inr ⟨bk,f,U,?_,a0,am,ap⟩;subst ac;simp
 refine As _ _ (OF (pl:=(S.set j []).flatten.length) b2 b3 b5 b4 b6 hb ca cc a7 cV bi cK ce ct ci ?_ ?_ ?_)
 ·intro bk f al a3 c2 c3 cW a9 bb ag;rcases aw with⟨U,_⟩ | ⟨aq,f0,U,ac,a0,am,ap⟩
  ·rw [U] at a3;cases a3
  ·subst ac;have cX:aq=bk:=by rw [U] at a3;simpa using a3
   subst cX;have cY:((S.set j []).flatten++ [(aq,Obj.cells f0 e (0,0))]).set (S.set j []).flatten.length (aq,.cells al e (0,0))=(S.set j []).flatten++ [(aq,.cells al e (0,0))]:=IB _ _ _ _;rw [cY] at ag ⊢;exact fin a c [] _ (a8 (.inr ⟨aq,al,U,V,a9,cW,bb.symm⟩)) ag
 ·intro bw hm;rcases aw with⟨U,ac,a0,am,ap⟩ | ⟨aq,f0,U,_⟩
  ·have cZ:Z.flatten= []:=List.eq_nil_of_length_eq_zero (by rw [LB cJ,a2,hm];simp);have:=fin none 0 [] [] (a8 (by rw [ac,hm,ap,cZ];exact GS.nil)) (by rw [am] at a7;simpa using a7);rw [ac,hm] at this;rw [am];simp only [List.append_nil] at this ⊢;exact this
  ·rw [U] at bw;cases bw
 ·intro r al O c0 a9 bb ag;have c1:(S.set j []).flatten++seg++ [(r,Obj.cells al e (0,0))]=(S.set j []).flatten++(seg++ [(r,.cells al e (0,0))]):=List.append_assoc _ _ _;rw [c1] at ag ⊢;exact fin (some ⟨r,0,none⟩) O seg _ (a8 (.inr ⟨r,al,V,V,a9,c0,bb.symm⟩)) ag
theorem YL{E0:LH}{ρ:Operand->Value}{K:Next->St->Prop}{α:Type}{pp:Rp α}{t1:TypeId}{O c cx:Nat}{a ax:Option Addr}{seg Y:Seg}{xs ys U:List α}{ats:Array TypeId}{z:Value}(j al:Nat)(am:Dy xs ys=some U)
  (ap:ρ x= .slice a xs.length c) (aq:ρ y= .slice ax ys.length cx) (aw:ats[0]? =some t) (a0:ats[1]? =some t1) (a1:P.underlying t=some (.slice e)) (a2:P.underlying t1=some (.slice e)) (a3:Bj P e=some pp.n) (hb:FJ P e=some O) (a4:zeroOf P e=some z) (a5:z.cells.size=pp.n)
  (a6:0<O) (a7:O<=64) (a8:OL e pp E0 a c seg xs) (a9:OL e pp E0 ax cx Y ys) (Z:Aq E H S) (bb:S[j]? =some seg) (be:S[al]? =some Y)
  (h:∀ac ag g seg',OL e pp E0 ac ag seg' U->Aq E H (S.set j (g++seg'))->K (.value (.slice ac U.length ag)) (Aj E H (S.set j (g++seg')))):
  lp P (execOp ρ ⟨d,.call ⟨.builtin .append,#[x,y],ats⟩,ty,p,af,g⟩) (Aj E H S) K (λ_ _=>False):=
 Yf j am ap aq aw a0 a1 a2 a3 hb a4 a5 a6 a7 a8 (a9.bA Z be) Z bb h
end
section
variable {b:Frame}{n:Nat}{m fuel:Nat}
variable {x:Operand}{v:Value}{i:Nat}
end
section
variable {b:Frame}{n:Nat}{m fuel:Nat}
variable {x:Operand}{v:Value}{i:Nat}
theorem Take.Mm{oi:Oper}(hi:ops[i]? =some oi)(K:(!DY oi.op&&Bf n oi.dst)=true)(hw:AM L ops oi=some true)
  (h:∀ρ,EA L ρ->lp P (execOp ρ oi) s (λO s'=>match O with
   | .value v=>AO J Q b n ds ops k cs m Df fuel (A8 listed i) (Au L oi.dst v) s'
   | .skip=>AO J Q b n ds ops k cs m Df fuel (A8 listed i) (Au L oi.dst undef) s'
   | _=>False) (λ_ _=>False)):Take J Q b n ds ops k cs m Df fuel listed L s i:=by
 simp only [Bool.and_eq_true] at K
 refine⟨oi,hi,K.1,K.2,hw,λρ Y=>DG _ (h ρ Y) ?_ (λ_ _ h=>h)⟩
 intro O s' U
 cases O with
 | value v=>exact U
 | skip=>exact U
 | _=>exact U.elim
theorem Take.EO{α:Type}{pp:Rp α}{len:Nat}{K:Array (Nat×Operand)}(vs:Lv_){z:Value}(xs:List α)(O:Aq E H S)
  (U:ops[i]? =some ⟨d,.buildSlice t len K,ty,p,af,g⟩) (hw:AM L ops ⟨d,.buildSlice t len K,ty,p,af,g⟩=some true) (Y:Bf n d=true)
  (Z:P.underlying t=some (.slice e)) (ac:Bj P e=some pp.n) (ag:zeroOf P e=some z) (al:decide (0<len*pp.n/\len*pp.n<=2 ^ 24)=true)
  (am:K.toList.mapM (λq=>(ev L q.2).map λv=>(q.1,v))=some ((vs.zipIdx 0).map λq=>(q.2,q.1)))
  (ap:vs.length=len) (aq:xs.length=len) (aw:KB pp E xs vs)
  (h:∀r seg,OL e pp E (some ⟨r,0,none⟩) len seg xs->Aq E H (S++ [seg])->AO J Q b n ds ops k cs m Df fuel (A8 listed i) (Au L d (.slice (some ⟨r,0,none⟩) xs.length len)) (Aj E H (S++ [seg]))):
  Take J Q b n ds ops k cs m Df fuel listed L (Aj E H S) i:=
 Take.Mm U (by simp [DY,Y]) hw λρ a0=>Tm a0 vs xs Z ac ag al am ap aq aw O λr seg a1 a2=>h r seg a1 a2
theorem Take.app0{α:Type}{pp:Rp α}{t1:TypeId}{U c cx:Nat}{a ax:Option Addr}{seg Z:Seg}{xs ys Y:List α}{ats:Array TypeId}{z:Value}(j ac:Nat)(al:Aq E H S)(am:Dy xs ys=some Y)
  (ap:ops[i]? =some ⟨d,.call ⟨.builtin .append,#[x,y],ats⟩,ty,p,af,g⟩) (hw:AM L ops ⟨d,.call ⟨.builtin .append,#[x,y],ats⟩,ty,p,af,g⟩=some true) (aq:Bf n d=true)
  (aw:ev L x=some (.slice a xs.length c)) (a0:ev L y=some (.slice ax ys.length cx)) (a1:ats[0]? =some t) (a2:ats[1]? =some t1) (a3:P.underlying t=some (.slice e)) (a4:P.underlying t1=some (.slice e)) (a5:Bj P e=some pp.n) (hb:FJ P e=some U) (a6:zeroOf P e=some z) (a7:z.cells.size=pp.n)
  (a8:0<U) (a9:U<=64) (bb:OL e pp E a c seg xs) (be:OL e pp E ax cx Z ys) (bi:S[j]? =some seg) (bo:S[ac]? =some Z)
  (h:∀K O g seg',OL e pp E K O seg' Y->Aq E H (S.set j (g++seg'))->AO J Q b n ds ops k cs m Df fuel (A8 listed i) (Au L d (.slice K Y.length O)) (Aj E H (S.set j (g++seg')))):
  Take J Q b n ds ops k cs m Df fuel listed L (Aj E H S) i:=
 Take.Mm ap (by simp [DY,aq]) hw λρ ag=>YL j ac am (ag _ _ aw) (ag _ _ a0) a1 a2 a3 a4 a5 hb a6 a7 a8 a9 bb be al bi bo λK O bv seg' bw b0=>h K O bv seg' bw b0
theorem Take.I8{z:Value}(O:Aq E H S)(U:ops[i]? =some ⟨d,.alloc e,ty,p,af,g⟩)(hw:AM L ops ⟨d,.alloc e,ty,p,af,g⟩=some true)(Y:Bf n d=true)(Z:zeroOf P e=some z)
  (h:∀r,Aq E H (S++ [[(r,.cells z.cells e (0,0))]])->AO J Q b n ds ops k cs m Df fuel (A8 listed i) (Au L d (.pointer (some ⟨r,0,none⟩))) (Aj E H (S++ [[(r,.cells z.cells e (0,0))]]))):
  Take J Q b n ds ops k cs m Df fuel listed L (Aj E H S) i:=
 Take.Mm U (by simp [DY,Y]) hw λρ _=>by
  show lp P (do pure (Next.value (← Instr.alloc e true (.tuple #[])))) _ _ _
  refine As _ _ ?_
  unfold Instr.alloc
  refine As _ _ (HA Z ?_)
  refine As _ _ (I0 O λr K=>?_)
  rw [(Fp K).1]
  exact h r (Fp K).2
end
theorem BQ{α:Type}{kk:Nat}{pp:Rp α}{E:LH}{ws:Lv_}{xs:List α}(K:(rA kk pp).r E ws xs):ws.length=kk*pp.n:=(rA kk pp).len K
theorem HC{α:Type}{kk:Nat}{pp:Rp α}{E:LH}{ws:Lv_}{xs:List α}{m:Int}{x:α}(O:(rA kk pp).r E ws xs)(hm:ix xs m=some x):∃us,pp.r E us x/\0<=m/\m<kk/\(∀j w,us[j]? =some w->ws[m.toNat*pp.n+j]? =some w):=by
 obtain⟨U,wss,rfl,Y,K⟩:=O;obtain⟨m,rfl,hm⟩:=FV hm;have ac:m<xs.length:=(List.getElem?_eq_some_iff.1 hm).1;have hw:wss[m]? =some wss[m]:=List.getElem?_eq_getElem (by omega);exact⟨wss[m],K m x _ hm hw,by omega,by omega,λj w Z=>Kf (Ia (Y.trans U.symm) K) hw j w Z⟩
section
variable {b:Frame}{n:Nat}
variable {x:Operand}{i:Nat}
theorem G7{α:Type}{kk:Nat}{pp:Rp α}{a:Addr}{ws:Lv_}{xs:List α}(K:(rA kk pp).r E ws xs)(O:De P t=some true)(U:Bj P t=some (kk*pp.n))(Y:ρ x= .pointer (some a))(h:∀j v,ws[j]? =some v->s.cell? (a.add j)=some v):Yl P ⟨d,.load t x,ty,p,af,g⟩ ρ s (.agg ws.toArray):=
 H9 O (by rw [BQ K];exact U) Y h
theorem Tn{α:Type}{pp:Rp α}{kk:Nat}{ws:Lv_}{xs:List α}{xv:α}{m:Int}{O:Bool}(Y:(rA kk pp).r E ws xs)(hm:ix xs m=some xv)
  (aq:ops[i]? =some ⟨d,.index t x y,ty,p,af,g⟩) (hw:AM L ops ⟨d,.index t x y,ty,p,af,g⟩=some true) (aw:BH b n ⟨d,.index t x y,ty,p,af,g⟩=true)
  (a0:ev L x=some (.agg ws.toArray)) (a1:ev L y=some (.int kd m)) (a2:P.underlying t=some (.array kk e)) (Z:Bj P e=some pp.n) (a3:De P e=some O)
  (h:∀us,pp.r E us xv->JL J Q b n (Au L d (if O then .agg us.toArray else us.headD undef)) ds (.inRegion ops rest::k) cs s) (a4:O=false->pp.n=1):
  JL J Q b n L ds (.inRegion ops (i::rest)::k) cs s:=by
 obtain⟨us,ac,a5,a6,ag⟩:=HC Y hm;have hlen:=pp.len ac;have a7:=BQ Y;refine A1 aq hw aw (λρ al=>?_) (h us ac);refine Fo (sm:=Instr.index t (ρ x) (ρ y)) V ?_;rw [al _ _ a0,al _ _ a1];unfold Instr.index;simp only [asIntOf,H3];refine As (x:=underlying t) _ (Cg a2 ?_);simp only [a5,a6,and_self,if_true];refine As (x:=Go.sizeOf e) _ (EJ Z ?_);unfold Go.part;refine As (x:=isAgg e) _ (M5 a3 ?_);have a9:m.toNat*pp.n+pp.n<=ws.length:=by
  rw [a7];have:(m.toNat+1)*pp.n<=kk*pp.n:=Nat.mul_le_mul_right _ (by omega);rw [Nat.succ_mul] at this;exact this
 cases O with
 | true=>
  simp only [if_true];refine As (x:=Go.sizeOf e) _ (EJ Z ?_);have a8:ws.toArray.extract (m.toNat*pp.n) (m.toNat*pp.n+pp.n)=us.toArray:=by
   apply Array.ext_getElem?;intro j;by_cases am:j<us.length
   ·have U:=ag j us[j] (List.getElem?_eq_getElem am);simp only [Array.getElem?_extract,List.size_toArray,List.getElem?_toArray];rw [if_pos (by omega),U];simp [am]
   ·rw [Array.getElem?_eq_none (by simp;omega),Array.getElem?_eq_none (by simp;omega)]
  rw [a8];exact⟨V,V⟩
 | false=>
  have ap:=a4 V;obtain⟨w,rfl⟩:∃w,us= [w]:=by
   match us,hlen with
   | [w],_=>exact⟨w,rfl⟩
   | [],K=>rw [ap] at K;cases K
   | _::_::_,K=>rw [ap] at K;simp at K
  have U:=ag 0 w V;simp only [Bool.false_eq_true,if_false,List.getElem?_toArray];rw [Nat.add_zero] at U;rw [U];exact⟨V,V⟩
end
def Hh(S:List Seg):List Nat->Prop
 | []=>True
 | bk::bks=>(∃(j:Nat) (o:Obj),S[j]? =some [(bk,o)])/\Hh S bks
theorem Hh.mem{S:List Seg}:∀{bks:List Nat},Hh S bks->∀bk∈bks,∃(j:Nat) (o:Obj),S[j]? =some [(bk,o)]
 | [],_,_,h=>by cases h
 | b::bks,h,bk,hb=>by
  rcases List.mem_cons.1 hb with rfl | hb
  ·exact h.1
  ·exact h.2.mem bk hb
theorem Hh.free{E H:LH}{S:List Seg}{bks:List Nat}(h:Hh S bks)(K:Aq E H S):∀x,Az bks x=true->E x=none:=λx O=>by
 obtain⟨j,o,U⟩:=h.mem x (by simpa [Az] using O)
 exact Nt K U
section
variable {b:Frame}{n:Nat}{m fuel:Nat}
variable {x:Operand}{v:Value}{i:Nat}
theorem Xu{bks:List Nat}{f:FuncId}{args:Array Operand}{ats:Array TypeId}{vs:Lv_}{R:Value->LH->Seg->Prop}(am:Hh S bks)(ap:AL J f vs E [] R)(aq:Region.ready .any ops listed= [i])
  (aw:ops[i]? =some ⟨d,.call ⟨.value (.func f),args,ats⟩,ty,p,af,g⟩) (a0:Bf n d=true) (hw:AM L ops ⟨d,.call ⟨.value (.func f),args,ats⟩,ty,p,af,g⟩=some true) (hb:Dm P f=true) (a1:evs L args.toList=some vs) (Z:Aq E H S)
  (a2:∀v E' seg',Le E E'->R v E' seg'->Aq E' H (S++ [seg'])->AO J Q b n ds ops k cs m (Az bks) fuel (A8 listed i) (Au L d v) (Aj E' H (S++ [seg']))):
  AO J Q b n ds ops k cs m (Az bks) (fuel+1) listed L (Aj E H S):=by
 have a3:=Ew.Kv (ap (Be S.flatten H) trivial) (by rintro v s' ⟨E',B',_,_,_,rfl⟩;rfl);refine AO.call V aq aw a0 hw hb a1 a3 ?_;rintro v be ⟨⟨E',B',hle,a4,a5,rfl⟩,w,a6⟩;have e2:mk E' (Be S.flatten H) B'=mk E' H (B'++S.flatten):=by unfold mk;rw [FE]
 have a7:Nd E' H S.flatten:=Nd.grow Z λx O=>by
  have a8:=a6.d x O;have U:Be B' (Be S.flatten H) x=none:=a8;exact(Hz U).1
 have ac:Nd E' H (B'++S.flatten):=Nd.glue a5 a7;have ag:(B'++S.flatten).Perm (S++ [B']).flatten:=by rw [GI];exact List.perm_append_comm
 have al:Aq E' H (S++ [B']):=Nd.perm ac ag;rw [e2,ET ac ag];refine⟨V,λx o O=>?_,a2 v E' B' hle a4 al⟩;by_cases hd:Az bks x=true
 ·obtain⟨j,o',Y⟩:=am.mem x (by simpa [Az] using hd);have U:(Aj E H S).get x=some o':=Dh (i:=0) Z Y V;have a9:j<S.length:=(List.getElem?_eq_some_iff.1 Y).1;have bb:(Aj E' H (S++ [B'])).get x=some o':=Dh (i:=0) al (by rw [List.getElem?_append_left a9];exact Y) rfl;have K:(if Az bks x then(Aj E H S).get x else E x)=some o:=O
  show(if Az bks x then(Aj E' H (S++ [B'])).get x else E' x)=some o
  rw [if_pos hd] at K ⊢;rw [bb,← U];exact K
 ·have K:(if Az bks x then(Aj E H S).get x else E x)=some o:=O
  show(if Az bks x then(Aj E' H (S++ [B'])).get x else E' x)=some o
  rw [if_neg hd] at K ⊢;exact hle _ _ K
theorem XK(m:Nat)(bks:List Nat){id:Nat}(U:Hh S bks)(Y:Aq E H S)(hm:P.follows .mixedOrders=true)(K:(b.kind != .early)=true)(O:DL ops m=true)
  (h:DL ops m=true->AO J Q b n ds ops k cs m (Az bks) ops.size (Array.replicate ops.size false) L (Aj E H S)):JL J Q b n L ds (.code (.region id ops true)::k) cs (Aj E H S):=
 OR m (Az bks) V hm K (h O)
theorem BZ{bks:List Nat}{bk o:Nat}{c:Av_}{f:Nat×Nat}{w:Value}{s':St}(j:Nat)(K:Aq E H S)(O:S[j]? =some [(bk,.cells c e f)])(U:Az bks bk=true)(Y:∀x o,(Bl (Az bks) (Aj E H S)).E x=some o->s'.E x=some o)(hw:c[o]? =some w):s'.cell? ⟨bk,o,none⟩=some w:=by
 have Z:(Bl (Az bks) (Aj E H S)).E bk=some (.cells c e f):=by
  show(if Az bks bk then(Aj E H S).get bk else E bk)=_
  rw [if_pos U];exact Dh (i:=0) K O V
 have ac:=Y _ _ Z;unfold St.cell? St.get;rw [ac];exact hw
theorem Uf{bks:List Nat}{s':St}(O:Aq E H S)(U:∀x o,(Bl (Az bks) (Aj E H S)).E x=some o->s'.E x=some o)(Y:Hh S bks):∀x o,E x=some o->s'.E x=some o:=λx o K=>U x o (by
 show(if Az bks x then(Aj E H S).get x else E x)=some o
 rw [if_neg (λhd=>by rw [Y.free O x hd] at K;cases K)];exact K)
end
theorem Xy{P:Program}{s:St}{ρ:Operand->Value}{x y:Operand}{d:Option Tmp}{t ty e:TypeId}{p:String}{af:Ae_}{g:On_}{kd:IntKind}{α:Type}{xs:List α}{xv:α}{m:Int}{bk c K:Nat}(hm:ix xs m=some xv)(O:P.underlying t=some (.slice e))(U:Bj P e=some K)(Y:ρ x= .slice (some ⟨bk,0,none⟩) xs.length c)(Z:ρ y= .int kd m):
  Yl P ⟨d,.indexAddr t x y,ty,p,af,g⟩ ρ s (.pointer (some ⟨bk,m.toNat*K,none⟩)):=by
 obtain⟨m,rfl,hm⟩:=FV hm;have ac:m<xs.length:=(List.getElem?_eq_some_iff.1 hm).1;have:=LD (P:=P) (s:=s) (d:=d) (ty:=ty) (p:=p) (af:=af) (g:=g) O U Y Z ⟨by omega,by omega⟩;rw [Dw rfl] at this;simpa using this
def Ip(ws:Lv_)(q:Nat)(us:Lv_):Lv_:=(A4 ws.toArray q us).toList
theorem MY{ws us:Lv_}{q:Nat}(h:q+us.length<=ws.length)(j:Nat):(Ip ws q us)[j]? =if q<=j/\j<q+us.length then us[j - q]? else ws[j]? :=by
 unfold Ip;rw [Array.getElem?_toList,LF us _ q (by simpa using h)];simp
theorem Vf{l ws us:Lv_}{q:Nat}(h:q+us.length<=ws.length):A4 (l++ws).toArray (l.length+q) us=(l++Ip ws q us).toArray:=by
 apply Array.ext_getElem?;intro j;rw [LF us _ _ (by simp;omega)];simp only [List.getElem?_toArray];by_cases O:l.length+q<=j/\j<l.length+q+us.length
 ·rw [if_pos O,List.getElem?_append_right (by omega),MY h,if_pos (by omega)];congr 1;omega
 ·rw [if_neg O];rcases Nat.lt_or_ge j l.length with K | K
  ·rw [List.getElem?_append_left K,List.getElem?_append_left K]
  ·rw [List.getElem?_append_right K,List.getElem?_append_right K,MY h,if_neg (by omega)]
theorem Iz{ws us:Lv_}(h:us.length=ws.length):Ip ws 0 us=us:=by
 apply List.ext_getElem?;intro j;rw [MY (by omega)];split
 ·simp
 ·rename_i K;rw [List.getElem?_eq_none (by omega),List.getElem?_eq_none (by omega)]
theorem Gt{E H:LH}{S:List Seg}{bk:Nat}{l ws:Lv_}{e:TypeId}{f:Nat×Nat}(j:Nat)(K:Aq E H S)(O:S[j]? =some [(bk,.cells (l++ws).toArray e f)]):∀q v,ws[q]? =some v->(Aj E H S).cell? (Addr.add ⟨bk,l.length,none⟩ q)=some v:=λq v U=>by
 rw [Dw rfl]
 refine BR K O ?_
 simp only [List.getElem?_toArray]
 rw [List.getElem?_append_right (by omega)]
 rw [show l.length+q - l.length=q by omega];exact U
theorem I1{E H:LH}{S:List Seg}{bk o:Nat}{l ws:Lv_}{e:TypeId}{f:Nat×Nat}{w:Value}(j:Nat)(K:Aq E H S)(O:S[j]? =some [(bk,.cells (l++ws).toArray e f)])(U:ws[o]? =some w):(Aj E H S).cell? ⟨bk,l.length+o,none⟩=some w:=by
 have:=Gt j K O o w U
 rwa [Dw rfl] at this
theorem NA{α:Type}{kk:Nat}{pp:Rp α}{E:LH}{ws us:Lv_}{xs:List α}{m:Int}{x y:α}(Z:(rA kk pp).r E ws xs)(hm:ix xs m=some x)(hu:pp.r E us y):(rA kk pp).r E (Ip ws (m.toNat*pp.n) us) (xs.set m.toNat y)/\m.toNat*pp.n+us.length<=ws.length:=by
 have a0:=BQ Z;obtain⟨ac,wss,rfl,ag,al⟩:=Z;obtain⟨m,rfl,hm⟩:=FV hm;have a1:m<xs.length:=(List.getElem?_eq_some_iff.1 hm).1;have am:=pp.len hu;have a2:=Ia (ag.trans ac.symm) al;have ap:m*pp.n+us.length<=wss.flatten.length:=by
  rw [a0,am];have:(m+1)*pp.n<=kk*pp.n:=Nat.mul_le_mul_right _ (by omega);rw [Nat.succ_mul] at this;exact this
 simp only [Int.toNat_natCast];refine⟨⟨by simpa using ac,wss.set m us,?_,by simpa using ag,λi a3 a4 O U=>?_⟩,ap⟩
 ·apply List.ext_getElem?;intro j;rw [MY ap];have key:∀(wss:List (Lv_)) (m:Nat) (hm:m<wss.length),(∀ws∈wss,ws.length=pp.n)->∀j,(wss.set m us).flatten[j]? =if m*pp.n<=j/\j<m*pp.n+us.length then us[j - m*pp.n]? else wss.flatten[j]? :=by
   intro wss
   induction wss with
   | nil=>intro m hm;simp at hm
   | cons vs wss a5=>
    intro m hm aq j;have a6:vs.length=pp.n:=aq vs (by simp);cases m with
    | zero=>
     simp only [List.set_cons_zero,List.flatten_cons,Nat.zero_mul,Nat.zero_le,true_and,Nat.zero_add,Nat.sub_zero];split
     ·rename_i K;rw [List.getElem?_append_left K]
     ·rename_i K;rw [List.getElem?_append_right (by omega),List.getElem?_append_right (by omega),am,a6]
    | succ m=>
     simp only [List.set_cons_succ,List.flatten_cons];have Y:(m+1)*pp.n=m*pp.n+pp.n:=Nat.succ_mul _ _;rcases Nat.lt_or_ge j vs.length with K | K
     ·rw [List.getElem?_append_left K,List.getElem?_append_left K,if_neg (by omega)]
     ·rw [List.getElem?_append_right K,List.getElem?_append_right K,a5 m (by simpa using hm) (λws a7=>aq ws (List.mem_cons_of_mem _ a7))];by_cases aw:m*pp.n<=j - vs.length/\j - vs.length<m*pp.n+us.length
      ·rw [if_pos aw,if_pos (by omega)];congr 1;omega
      ·rw [if_neg aw,if_neg (by omega)]
  exact(key wss m (by omega) a2 j).symm
 ·rw [List.getElem?_set] at O U;by_cases Y:m=i
  ·subst Y;rw [if_pos rfl,if_pos a1] at O;rw [if_pos rfl,if_pos (by omega)] at U;cases O;cases U;exact hu
  ·rw [if_neg Y] at O U;exact al i a3 a4 O U
theorem FW{α:Type}{kk:Nat}{pp:Rp α}{E:LH}{w:Value}{x:α}(h:pp.r E [w] x):(rA kk pp).r E (List.replicate kk w) (List.replicate kk x):=by
 refine⟨by simp,List.replicate kk [w],?_,by simp,λi y us K hu=>?_⟩
 ·induction kk with
  | zero=>rfl
  | succ k O=>rw [List.replicate_succ,List.replicate_succ,List.flatten_cons,← O];rfl
 ·have U:=List.eq_of_mem_replicate (List.mem_of_getElem? K);have e2:=List.eq_of_mem_replicate (List.mem_of_getElem? hu);subst U e2;exact h
section
variable {b:Frame}{n:Nat}
variable {x:Operand}{i:Nat}
theorem I2{α:Type}{kk:Nat}{pp:Rp α}{ws:Lv_}{xs:List α}{xv:α}{m:Int}{bk o:Nat}(K:(rA kk pp).r E ws xs)(hm:ix xs m=some xv)(O:P.underlying t=some (.array kk e))(U:Bj P e=some pp.n)(Y:ρ x= .pointer (some ⟨bk,o,none⟩))(Z:ρ y= .int kd m):
  Yl P ⟨d,.indexAddr t x y,ty,p,af,g⟩ ρ s (.pointer (some ⟨bk,o+m.toNat*pp.n,none⟩)):=by
 obtain⟨us,al,ac,ag,am⟩:=HC K hm;have:=QT (P:=P) (s:=s) (d:=d) (ty:=ty) (p:=p) (af:=af) (g:=g) O U Y Z ⟨ac,ag⟩;rw [Dw rfl] at this;exact this
theorem GH{bk o:Nat}{l ws us:Lv_}{v:Value}(j:Nat)(U:ops[i]? =some ⟨d,.store t x y,ty,p,af,g⟩)(hw:AM L ops ⟨d,.store t x y,ty,p,af,g⟩=some true)(Y:BH b n ⟨d,.store t x y,ty,p,af,g⟩=true)(Z:Aq E H S)
  (ac:ev L x=some (.pointer (some ⟨bk,l.length+o,none⟩))) (ag:ev L y=some v) (K:v.cells.toList=us) (al:Bj P t=some us.length) (am:∀u∈us,CJ u=true) (ap:S[j]? =some [(bk,.cells (l++ws).toArray e (0,0))]) (hle:o+us.length<=ws.length)
  (h:Aq E H (S.set j [(bk,.cells (l++Ip ws o us).toArray e (0,0))])->JL J Q b n (Au L d undef) ds (.inRegion ops rest::k) cs (Aj E H (S.set j [(bk,.cells (l++Ip ws o us).toArray e (0,0))]))):
  JL J Q b n L ds (.inRegion ops (i::rest)::k) cs (Aj E H S):=by
 have aq:v.cells.size=us.length:=by rw [← K];simp
 refine JS.store (v:=v) (off:=l.length+o) j U hw Y Z ac ag (by rw [aq];exact al) (by rw [K];exact am) ap (by simp;omega) λO=>?_;rw [K,Vf hle] at O ⊢;exact h O
end
section
variable {x:Operand}{v:Value}
theorem TS{n:Nat}{kd:IntKind}{a b:Int}(K:P.underlying t=some (.int kd)){Q:Bool->St->Prop}{X:Halt->St->Prop}(k:Q (a==b) s):lp P (Op.equalIn (n+1) t (.int kd a) (.int kd b)) s Q X:=by
 unfold Op.equalIn;refine As _ _ (Cg K ?_);simp only [if_true];exact k
end
theorem Rg{E H:LH}{S:List Seg}{bks:List Nat}{bk:Nat}{l ws:Lv_}{e:TypeId}{f:Nat×Nat}{s':St}(j:Nat)(K:Aq E H S)(O:S[j]? =some [(bk,.cells (l++ws).toArray e f)])(U:Az bks bk=true)(Y:∀x o,(Bl (Az bks) (Aj E H S)).E x=some o->s'.E x=some o):∀q v,ws[q]? =some v->s'.cell? (Addr.add ⟨bk,l.length,none⟩ q)=some v:=λq v Z=>by
 rw [Dw rfl]
 refine BZ j K O U Y ?_
 simp only [List.getElem?_toArray]
 rw [List.getElem?_append_right (by omega)]
 rw [show l.length+q - l.length=q by omega];exact Z
variable {xt t1 t2:TypeId}{o:Option (Int×Option Int)}
section
variable {x:Operand}{v:Value}
end
def Uv{P:Program}(J:Judge P)(v:Value)(args:Av_)(s:St)(R:Value->St->Prop):Prop:=
 ∀(Q:Gs_) (c:Frame) (cs:Lf_),(∀w s',R w s'->J.ok Q (G (c.finish w) cs) s')->
  lp P (do let d ← Deferred.ofValue v args;invoke d.target d.args) s (λK s'=>match K with
   | .enter f a=>J.ok Q (G (Frame.enter P f a .normal) (c::cs)) s'
   | .round l f tm as O=>J.ok Q (G (Frame.round l f tm as O .normal) (c::cs)) s'
   | _=>False) (λ_ _=>False)
def F2{P:Program}(J:Judge P)(v:Value)(args:Lv_)(E:LH)(B:Seg)(R:Value->LH->Seg->Prop):Prop:=
 ∀H,Nd E H B->Uv J v args.toArray (mk E H B) (λv s'=>∃E' B',Le E E'/\R v E' B'/\Nd E' H B'/\s'=mk E' H B')
section
variable {b:Frame}{n:Nat}{i:Nat}
theorem F2.ofFn{f:FuncId}{caps vs:Lv_}{B:Seg}{R:Value->LH->Seg->Prop}(hb:Dm P f=true)(h:AL J f (vs++caps) E B R):F2 J (.func (.func f) #[] caps.toArray) vs E B R:=λH K Q c cs O=>by
 simp only [Deferred.ofValue,bind,Sem.bind,pure,invoke]
 have e: #[]++vs.toArray++caps.toArray=(vs++caps).toArray:=by simp
 rw [e];exact IW hb (h H K Q c cs O)
theorem Wi{x:Operand}{O:Value}{args:Array Operand}{ats:Array TypeId}{s:St}{vs:Lv_}{R:Value->St->Prop}
  (Y:ops[i]? =some ⟨d,.call ⟨.value x,args,ats⟩,ty,p,af,g⟩) (hw:AM L ops ⟨d,.call ⟨.value x,args,ats⟩,ty,p,af,g⟩=some true) (U:((b.kind != .early)&&Bf n d)=true)
  (Z:ev L x=some O) (ac:evs L args.toList=some vs) (ag:Uv J O vs.toArray s R) (al:∀v s',R v s'->JL J Q b n (Au L d v) ds (.inRegion ops rest::k) cs s'):
  JL J Q b n L ds (.inRegion ops (i::rest)::k) cs s:=λT K=>by
 simp only [Bool.and_eq_true] at U
 have am:args.map (Bu T)=vs.toArray:=by
  rw [← FR K.FX ac];apply Array.ext';simp
 refine Judge.oper Y (B3 K hw) (by simpa using U.1) (.inr λc ap=>by cases ap) ?_;have hd:lp P (execOp (Bu T) ⟨d,.call ⟨.value x,args,ats⟩,ty,p,af,g⟩) s (upon J Q b T ds ops i rest k cs d) (Lb J Q b T ds ops i rest k cs):=by
  have aq:execOp (Bu T) ⟨d,.call ⟨.value x,args,ats⟩,ty,p,af,g⟩=(do let d ← Deferred.ofValue O vs.toArray;invoke d.target d.args):=by
   simp only [execOp,resolve,am,K.FX _ _ Z]
  rw [aq];refine DG _ (ag Q (fr b T ds (.inRegion ops (i::rest)::k)) cs λv s' aw=>?_) (λa0 s' h=>?_) (λ_ _ h=>h.elim)
  ·rw [Gq (o:=⟨d,.call ⟨.value x,args,ats⟩,ty,p,af,g⟩) _ _ _ _ _ Y];exact al v s' aw _ (K.put U.2 v)
  ·cases a0 <;> first | exact h | exact h.elim
 exact hd
theorem KY{x:Operand}{O:Value}{args:Array Operand}{ats:Array TypeId}{vs:Lv_}{seg:Seg}{R:Value->LH->Seg->Prop}(j:Nat)
  (am:F2 J O vs E seg R) (ap:ops[i]? =some ⟨d,.call ⟨.value x,args,ats⟩,ty,p,af,g⟩) (hw:AM L ops ⟨d,.call ⟨.value x,args,ats⟩,ty,p,af,g⟩=some true) (aq:((b.kind != .early)&&Bf n d)=true)
  (K:ev L x=some O) (aw:evs L args.toList=some vs) (U:Aq E H S) (Y:S[j]? =some seg) (a0:∀v E' seg',Le E E'->R v E' seg'->Aq E' H (S.set j seg')->JL J Q b n (Au L d v) ds (.inRegion ops rest::k) cs (Aj E' H (S.set j seg'))):
  JL J Q b n L ds (.inRegion ops (i::rest)::k) cs (Aj E H S):=by
 have Z:S.flatten.Perm (seg++(S.set j []).flatten):=(Ei (seg':=seg) Y).1.trans List.perm_append_comm;have ac:Nd E H (seg++(S.set j []).flatten):=Nd.perm U Z;have a1:Aj E H S=mk E (Be (S.set j []).flatten H) seg:=by
  rw [show Aj E H S=mk E H S.flatten from rfl,ET U Z];unfold mk;rw [FE]
 rw [a1];refine Wi ap hw aq K aw (am _ (Nd.front ac)) ?_;rintro v s' ⟨E',B',hle,a2,a3,rfl⟩;have e2:mk E' (Be (S.set j []).flatten H) B'=mk E' H (B'++(S.set j []).flatten):=by unfold mk;rw [FE]
 have a4:Nd E H (S.set j []).flatten:=by
  have:=ac;rw [Nd.iff] at this ⊢;rw [List.map_append,List.nodup_append] at this;exact⟨this.1.2.1,λq a5=>this.2 q (List.mem_append_right _ a5)⟩
 refine R3 V λ⟨w,a6⟩=>?_;have a7:Nd E' H (S.set j []).flatten:=a4.grow λx K=>by
  have a8:=a6.d x K;have a9:Be B' (Be (S.set j []).flatten H) x=none:=a8;exact(Hz a9).1
 have ag:Nd E' H (B'++(S.set j []).flatten):=Nd.glue a3 a7;rw [e2];have al:(B'++(S.set j []).flatten).Perm (S.set j B').flatten:=List.perm_append_comm.trans (Ei Y).2.symm;rw [ET ag al];exact a0 v E' B' hle a2 (Nd.perm ag al)
theorem Take.bH{bks:List Nat}{m fuel:Nat}{listed:Array Bool}{f:FuncId}{args:Array Operand}{ats:Array TypeId}{vs:Lv_}{R:Value->LH->Seg->Prop}(ap:Hh S bks)(Z:Aq E H S)(aq:AL J f vs E [] R)
  (aw:ops[i]? =some ⟨d,.call ⟨.value (.func f),args,ats⟩,ty,p,af,g⟩) (hw:AM L ops ⟨d,.call ⟨.value (.func f),args,ats⟩,ty,p,af,g⟩=some true) (a0:Bf n d=true) (hb:Dm P f=true) (a1:evs L args.toList=some vs)
  (a2:∀v E' seg',Le E E'->R v E' seg'->Aq E' H (S++ [seg'])->AO J Q b n ds ops k cs m (Az bks) fuel (A8 listed i) (Au L d v) (Aj E' H (S++ [seg']))):
  Take J Q b n ds ops k cs m (Az bks) fuel listed L (Aj E H S) i:=by
 have a3:=Ew.Kv (aq (Be S.flatten H) trivial) (by rintro v s' ⟨E',B',_,_,_,rfl⟩;rfl);refine⟨_,aw,by simp [DY],a0,hw,λρ ac=>?_⟩;have a4:args.map ρ=vs.toArray:=by
  rw [← FR ac a1];apply Array.ext';simp
 have a5:ρ (.func f)= .func (.func f) #[] #[]:=ac _ _ V;simp only [execOp,resolve,bind,Sem.bind,Deferred.ofValue,a5,pure,invoke];have e: #[]++args.map ρ++ #[]=vs.toArray:=by rw [a4];simp
 rw [e];refine IW hb ?_;rw [KO];refine⟨_,a3,?_⟩;rintro v bo ⟨⟨E',B',hle,a6,a7,rfl⟩,w,a8⟩;have e2:mk E' (Be S.flatten H) B'=mk E' H (B'++S.flatten):=by unfold mk;rw [FE]
 have a9:Nd E' H S.flatten:=Nd.grow Z λx O=>by
  have bb:=a8.d x O;have U:Be B' (Be S.flatten H) x=none:=bb;exact(Hz U).1
 have ag:Nd E' H (B'++S.flatten):=Nd.glue a7 a9;have al:(B'++S.flatten).Perm (S++ [B']).flatten:=by rw [GI];exact List.perm_append_comm
 have am:Aq E' H (S++ [B']):=Nd.perm ag al;rw [e2,ET ag al];refine⟨V,λx o O=>?_,a2 v E' B' hle a6 am⟩;by_cases hd:Az bks x=true
 ·obtain⟨j,o',Y⟩:=ap.mem x (by simpa [Az] using hd);have U:(Aj E H S).get x=some o':=Dh (i:=0) Z Y V;have be:j<S.length:=(List.getElem?_eq_some_iff.1 Y).1;have bi:(Aj E' H (S++ [B'])).get x=some o':=Dh (i:=0) am (by rw [List.getElem?_append_left be];exact Y) rfl;have K:(if Az bks x then(Aj E H S).get x else E x)=some o:=O
  show(if Az bks x then(Aj E' H (S++ [B'])).get x else E' x)=some o
  rw [if_pos hd] at K ⊢;rw [bi,← U];exact K
 ·have K:(if Az bks x then(Aj E H S).get x else E x)=some o:=O
  show(if Az bks x then(Aj E' H (S++ [B'])).get x else E' x)=some o
  rw [if_neg hd] at K ⊢;exact hle _ _ K
theorem Take.EL{m fuel:Nat}{listed:Array Bool}{f:FuncId}{args:Array Operand}{ats:Array TypeId}{vs:Lv_}{R:Value->LH->Seg->Prop}(O:Aq E H S)(U:AL J f vs E [] R)
  (Y:ops[i]? =some ⟨d,.call ⟨.value (.func f),args,ats⟩,ty,p,af,g⟩) (hw:AM L ops ⟨d,.call ⟨.value (.func f),args,ats⟩,ty,p,af,g⟩=some true) (Z:Bf n d=true) (hb:Dm P f=true) (ac:evs L args.toList=some vs)
  (K:∀v E' seg',Le E E'->R v E' seg'->Aq E' H (S++ [seg'])->AO J Q b n ds ops k cs m Df fuel (A8 listed i) (Au L d v) (Aj E' H (S++ [seg']))):
  Take J Q b n ds ops k cs m Df fuel listed L (Aj E H S) i:=by
 have e:Az []=Df:=by funext x;rfl
 rw [← e] at K ⊢;exact Take.bH (bks:= []) trivial O U Y hw Z hb ac K
end
open Go.ConcN (upd upd_ne upd_same)
def CH:Loc->Option Nat | .cell a=>some a.block | .obj r=>some r | _=>none
structure BS (t:Trace) (w:World) (N:Nat) (S:Nat->St) (Sh:Nat->Prop):Prop where
 fits:∀i,i<N->Fits (S i) w
 hh:∀i j,i<N->j<N->i≠j->∀b,(S i).H b≠none->(S j).H b=none/\(S j).E b=none
 sh:∀i,i<N->∀b,Sh b->(S i).H b=none/\(S i).E b=none
 Gd:∀b,Sh b->b<w.heap.size
 clean:∀said,¬Race said t
 low:∀op∈t,op.act.low w.heap.size
 kH:∀i,i<N->∀b,(S i).H b≠none->∀x a,touchAt t x=some a->CH a.loc=some b->Knows t i x
 kE:∀i,i<N->∀b,(S i).E b≠none->∀x a,touchAt t x=some a->CH a.loc=some b->a.write=true->Knows t i x
theorem OS{t:Trace}{x:Nat}{a:Touch}{b n:Nat}(Z:∀op∈t,op.act.low n)(h:touchAt t x=some a)(hb:CH a.loc=some b):b<n:=by
 obtain⟨op,ac,K⟩:=touch_of h;have O:=Z op (mem_of_getElem? ac);cases U:op.act with
 | access e=>
  rw [U] at K O;simp only [MemAct.touch?,Option.some.injEq] at K;subst K;simp only [MemAct.low] at O;cases Y:e.loc with
  | cell ad=>rw [Y] at O hb;simp only [CH,Option.some.injEq] at hb;subst hb;exact O
  | obj r=>rw [Y] at O hb;simp only [CH,Option.some.injEq] at hb;subst hb;exact O
  | _=>rw [Y] at hb;simp [CH] at hb
 | mark m=>
  rw [U] at K O;cases m <;> simp only [MemAct.touch?] at K <;> first
   | (simp at K;done)
   | (simp only [Option.some.injEq] at K;subst K;simp only [CH,Option.some.injEq] at hb;subst hb;exact O)
 | _=>rw [U] at K;simp [MemAct.touch?] at K
theorem K0{s:St}{w w':World}{e:Event}{a:Touch}{b:Nat}(h:Ev s w w' e)(K:(MemAct.ofEvent e).touch? =some a)(hb:CH a.loc=some b):
  GN s w w' b a.write:=by
 obtain⟨loc,wr,Y⟩:=e;cases loc with
 | cell ad=>
  obtain⟨O,U⟩:=h;simp only at O;subst O;simp only [MemAct.ofEvent,MemAct.touch?,Option.some.injEq] at K;subst K;simp only [CH,Option.some.injEq] at hb;subst hb;exact U
 | obj r=>
  obtain⟨O,U⟩:=h;simp only at O;subst O;simp only [MemAct.ofEvent,MemAct.touch?,Option.some.injEq] at K;subst K;simp only [CH,Option.some.injEq] at hb;subst hb;exact U
 | mark m=>
  cases m <;> simp only [Ev] at h <;> first | exact h.elim | simp [MemAct.ofEvent,MemAct.touch?] at K
 | _=>exact h.elim
theorem aX{s:St}{w w':World}{e:Event}(h:Ev s w w' e):(MemAct.ofEvent e).low w'.heap.size:=by
 obtain⟨loc,wr,U⟩:=e;cases loc with
 | cell ad=>obtain⟨K,O⟩:=h;simp only at K;subst K;exact O.1
 | obj r=>obtain⟨K,O⟩:=h;simp only at K;subst K;cases wr <;> exact O.1
 | mark m=>cases m <;> simp only [Ev] at h <;> first | exact h.elim | exact trivial
 | _=>exact h.elim
theorem U8{l:Loc}(h:l.isMemory=true):∃b,CH l=some b:=by
 cases l <;> simp [Loc.isMemory] at h <;> exact⟨_,rfl⟩
theorem BS.own{t:Trace}{w w':World}{N:Nat}{S:Nat->St}{Sh:Nat->Prop}(h:BS t w N S Sh){i:Nat}(hi:i<N){s':St}{fn:FuncId}{pos:String}{es:Array Event}
  (bo:Fits s' w') (Y:Fr (S i) w s' w') (a1:∀e∈es,Ev (S i) w w' e):BS (t++MemOp.ofEvents i fn pos es) w' N (upd S i s') Sh:=by
 have a8:∀j,j<N->j≠i->∀b o,((S j).H b=some o∨(S j).E b=some o)->w'.heap[b]? =some o/\(S i).H b=none:=by
  intro j U Z b o K;have hw:w.heap[b]? =some o:=K.elim ((h.fits j U).h b o) ((h.fits j U).e b o);have al:b<w.heap.size:=by
   rcases Nat.lt_or_ge b w.heap.size with a4 | a4
   ·exact a4
   ·simp [Array.getElem?_eq_none a4] at hw
  have a9:(S i).H b=none:=by
   cases bv:(S i).H b with
   | none=>rfl
   | some u=>
    have:=h.hh i j hi U (Ne.symm Z) b (by rw [bv];simp);rcases K with K | K
    ·rw [this.1] at K;cases K
    ·rw [this.2] at K;cases K
  exact⟨by rw [Y.keep b al a9,hw],a9⟩
 have a2:∀j,j<N->∀b,w.heap.size<=b->(S j).H b=none/\(S j).E b=none:=by
  intro j U b hb;constructor
  ·cases O:(S j).H b with
   | none=>rfl
   | some o=>have:=(h.fits j U).h b o O;simp [Array.getElem?_eq_none hb] at this
  ·cases O:(S j).E b with
   | none=>rfl
   | some o=>have:=(h.fits j U).e b o O;simp [Array.getElem?_eq_none hb] at this
 have am:∀op∈MemOp.ofEvents i fn pos es,op.g=i/\∃e∈es,op.act=MemAct.ofEvent e:=by
  intro op am;obtain⟨e,he,rfl⟩:=mem_ofEvents am;exact⟨V,e,he,V⟩
 have hold:∀x a,touchAt t x=some a->touchAt (t++MemOp.ofEvents i fn pos es) x=some a:=by
  intro x a O;obtain⟨op,K,_⟩:=touch_of O;rw [touchAt_old (lt_size_of_getElem? K)];exact O
 have a3:∀x a,touchAt (t++MemOp.ofEvents i fn pos es) x=some a->touchAt t x=some a∨(Knows (t++MemOp.ofEvents i fn pos es) i x/\∃e∈es,(MemAct.ofEvent e).touch? =some a):=by
  intro x a O;obtain⟨op,K,bb⟩:=touch_of O;rcases getElem?_append_cases K with⟨al,bw⟩ | ⟨_,b0⟩
  ·left;rw [touchAt_of bw];exact bb
  ·right;obtain⟨b1,e,he,aq⟩:=am op b0;exact⟨by have:=knows_own K;rwa [b1] at this,e,he,by rw [← aq];exact bb⟩
 have b2:∀j,j<N->j≠i->∀b,s'.H b≠none->(S j).H b=none/\(S j).E b=none:=by
  intro j U Z b hb;rcases Y.own b hb with O | O
  ·exact h.hh i j hi U (Ne.symm Z) b O
  ·exact a2 j U b O
 have b3:∀j,j<N->j≠i->∀b,(S j).H b≠none->s'.H b=none/\s'.E b=none:=by
  intro j U Z b hb;have ac:=h.hh j i U hi Z b hb;have al:¬w.heap.size<=b:=λO=>hb (a2 j U b O).1;constructor
  ·cases O:s'.H b with
   | none=>rfl
   | some o=>
    rcases Y.own b (by rw [O];simp) with y | y
    ·exact absurd ac.1 y
    ·exact absurd y al
  ·cases O:s'.E b with
   | none=>rfl
   | some o=>
    rcases Y.EG b (by rw [O];simp) with y | y | y
    ·exact absurd ac.2 y
    ·exact absurd ac.1 y
    ·exact absurd y al
 constructor
 ·intro j U;by_cases e:j=i
  ·subst e;rw [upd_same];exact bo
  ·rw [upd_ne _ _ e];exact⟨λb o K=>(a8 j U e b o (.inr K)).1,λb o K=>(a8 j U e b o (.inl K)).1,(h.fits j U).d⟩
 ·intro a c be aw Z b hb;by_cases e:a=i
  ·subst e;rw [upd_same] at hb;rw [upd_ne _ _ (Ne.symm Z)];exact b2 c aw (Ne.symm Z) b hb
  ·rw [upd_ne _ _ e] at hb;by_cases bi:c=i
   ·subst bi;rw [upd_same];exact b3 a be Z b hb
   ·rw [upd_ne _ _ bi];exact h.hh a c be aw Z b hb
 ·intro j U b hb;by_cases e:j=i
  ·subst e;rw [upd_same];have ac:=h.sh j U b hb;have al:=h.Gd b hb;constructor
   ·cases O:s'.H b with
    | none=>rfl
    | some o=>
     rcases Y.own b (by rw [O];simp) with y | y
     ·exact absurd ac.1 y
     ·omega
   ·cases O:s'.E b with
    | none=>rfl
    | some o=>
     rcases Y.EG b (by rw [O];simp) with y | y | y
     ·exact absurd ac.2 y
     ·exact absurd ac.1 y
     ·omega
  ·rw [upd_ne _ _ e];exact h.sh j U b hb
 ·exact λb hb=>Nat.lt_of_lt_of_le (h.Gd b hb) Y.size
 ·intro said;refine noRace_append (g:=i) (h.clean said) (λop K=>(am op K).1) λx a O op K c aw b4=>?_;obtain⟨_,e,he,aq⟩:=am op K;rw [aq] at aw;obtain⟨b5,hm,ap,_⟩:=b4;obtain⟨b,hb⟩:=U8 hm;have b6:CH c.loc=some b:=by rw [← b5];exact hb
  have a0:=K0 (a1 e he) aw b6;rcases a0.2 with y | y | ⟨y,a5⟩
  ·exact h.kH i hi b y x a O hb
  ·have:=OS h.low O hb;omega
  ·rcases ap with z | z
   ·exact h.kE i hi b y x a O hb z
   ·rw [a5] at z;cases z
 ·intro op K;rcases Array.mem_append.1 K with K | K
  ·exact MemAct.low_mono Y.size (h.low op K)
  ·obtain⟨_,e,he,aq⟩:=am op K;rw [aq];exact aX (a1 e he)
 ·intro j U b hb x a O ag;by_cases e:j=i
  ·subst e;rw [upd_same] at hb;rcases a3 x a O with K | ⟨a6,_⟩
   ·rcases Y.own b hb with y | y
    ·exact(h.kH j U b y x a K ag).app _
    ·have:=OS h.low K ag;omega
   ·exact a6
  ·rw [upd_ne _ _ e] at hb;rcases a3 x a O with K | ⟨_,ev,he,a7⟩
   ·exact(h.kH j U b hb x a K ag).app _
   ·have a0:=K0 (a1 ev he) a7 ag;have ac:=h.hh j i U hi e b hb;rcases a0.2 with y | y | ⟨y,_⟩
    ·exact absurd ac.1 y
    ·exact absurd (a2 j U b y).1 hb
    ·exact absurd ac.2 y
 ·intro j U b hb x a O ag ap;by_cases e:j=i
  ·subst e;rw [upd_same] at hb;rcases a3 x a O with K | ⟨a6,_⟩
   ·rcases Y.EG b hb with y | y | y
    ·exact(h.kE j U b y x a K ag ap).app _
    ·exact(h.kH j U b y x a K ag).app _
    ·have:=OS h.low K ag;omega
   ·exact a6
  ·rw [upd_ne _ _ e] at hb;rcases a3 x a O with K | ⟨_,ev,he,a7⟩
   ·exact(h.kE j U b hb x a K ag ap).app _
   ·have a0:=K0 (a1 ev he) a7 ag;rcases a0.2 with y | y | ⟨_,a5⟩
    ·exact absurd ((h.hh i j hi U (Ne.symm e) b y).2) hb
    ·exact absurd (a2 j U b y).2 hb
    ·rw [a5] at ap;cases ap
theorem BS.mute{t u:Trace}{w w':World}{N:Nat}{S:Nat->St}{Sh:Nat->Prop}(h:BS t w N S Sh){g:Nat}(hu:∀op∈u,op.g=g)(Z:∀op∈u,op.act.touch? =none)(al:∀op∈u,op.act.low w'.heap.size)(hw:w'.heap=w.heap):BS (t++u) w' N S Sh:=by
 have ac:∀x a,touchAt (t++u) x=some a->touchAt t x=some a:=by
  intro x a O;obtain⟨op,K,U⟩:=touch_of O;rcases getElem?_append_cases K with⟨aw,am⟩ | ⟨_,ap⟩
  ·rw [touchAt_of am];exact U
  ·rw [Z op ap] at U;cases U
 exact⟨λi hi=>⟨λb o K=>by rw [hw];exact(h.fits i hi).e b o K,λb o K=>by rw [hw];exact(h.fits i hi).h b o K,(h.fits i hi).d⟩,h.hh,h.sh,λb hb=>by rw [hw];exact h.Gd b hb,
  λsaid=>noRace_append (g:=g) (h.clean said) hu (λx a _ op K c ag _=>by rw [Z op K] at ag;cases ag),
  λop K=>(Array.mem_append.1 K).elim (λK=>by rw [hw];exact h.low op K) (al op),
  λi hi b hb x a O Y=>(h.kH i hi b hb x a (ac x a O) Y).app _,λi hi b hb x a O Y aq=>(h.kE i hi b hb x a (ac x a O) Y aq).app _⟩
theorem BS.ghost{t:Trace}{w:World}{N:Nat}{S:Nat->St}{Sh:Nat->Prop}(h:BS t w N S Sh){i:Nat}(hi:i<N){s₀:St}(al:Cc (S i) s₀):BS t w N (upd S i s₀) Sh:=by
 have Z:∀b,s₀.H b≠none->(S i).H b≠none:=λb hb=>by obtain⟨o,am⟩:=H4 hb;rw [al.own b o am];simp
 have ap:∀b,s₀.E b≠none->(S i).E b≠none∨(S i).H b≠none:=λb hb=>by
  obtain⟨o,am⟩:=H4 hb;rcases al.EG b o am with x | x
  ·exact .inl (by rw [x];simp)
  ·exact .inr (by rw [x.1];simp)
 have ac:∀{x:Option Obj},¬x≠none->x=none:=λh=>Classical.not_not.1 h;constructor
 ·intro j K;by_cases e:j=i
  ·subst e;rw [upd_same];exact al.fits (h.fits j K)
  ·rw [upd_ne _ _ e];exact h.fits j K
 ·intro a c aq aw ag b hb;by_cases e:a=i
  ·subst e;rw [upd_same] at hb;rw [upd_ne _ _ (Ne.symm ag)];exact h.hh a c aq aw ag b (Z b hb)
  ·rw [upd_ne _ _ e] at hb;by_cases a0:c=i
   ·subst a0;rw [upd_same];have O:=h.hh a c aq aw ag b hb;exact⟨ac λx=>Z b x O.1,ac λx=>(ap b x).elim (λy=>y O.2) λy=>y O.1⟩
   ·rw [upd_ne _ _ a0];exact h.hh a c aq aw ag b hb
 ·intro j K b hb;by_cases e:j=i
  ·subst e;rw [upd_same];have O:=h.sh j K b hb;exact⟨ac λx=>Z b x O.1,ac λx=>(ap b x).elim (λy=>y O.2) λy=>y O.1⟩
  ·rw [upd_ne _ _ e];exact h.sh j K b hb
 ·exact h.Gd
 ·exact h.clean
 ·exact h.low
 ·intro j K b hb x a U Y;by_cases e:j=i
  ·subst e;rw [upd_same] at hb;exact h.kH j K b (Z b hb) x a U Y
  ·rw [upd_ne _ _ e] at hb;exact h.kH j K b hb x a U Y
 ·intro j K b hb x a U Y a1;by_cases e:j=i
  ·subst e;rw [upd_same] at hb;rcases ap b hb with y | y
   ·exact h.kE j K b y x a U Y a1
   ·exact h.kH j K b y x a U Y
  ·rw [upd_ne _ _ e] at hb;exact h.kE j K b hb x a U Y a1
open Go.ConcN (sumTo sumTo_upd)
abbrev St.none:St:=St.quiet
def Gg(o o':Os):Prop:=∃d:Nat,o'={o with wall:=o.wall+d,mono:=o.mono+d}
theorem Gg.refl(o:Os):Gg o o:=⟨0,V⟩
theorem Gg.of{o o':Os}(h:o'=o):Gg o o':=h▸ .refl o
theorem Gg.trans{a b c:Os}(h:Gg a b)(k:Gg b c):Gg a c:=by
 obtain⟨d,rfl⟩:=h;obtain⟨e,rfl⟩:=k;exact⟨d+e,by simp [Nat.add_assoc]⟩
def lone(s:St):Nat->St:=λi=>if i=0 then s else St.none
structure Hp (P:Program) (gs:Array Goroutine) (w:World) (t:Trace) (q:Nat->Nat) (Sh:Nat->Prop) (g:Goroutine) (s:St):Prop where
 main:gs[0]? =some g
 lv:Leavers P t gs q
 B7:BS t w gs.size (lone s) Sh
 over:t.HandedOver
 hears:Deaf t 0=0
def Reaches(P:Program)(gs:Array Goroutine)(w:World)(sl:Option (Nat×Nat))(t:Trace)(s:St)(K:Gs_):Prop:=
 ∃(n:Nat) (gs':Array Goroutine) (w':World) (U:Option (Nat×Nat)) (O:Trace) (q':Nat->Nat) (Y:Nat->Prop) (g':Goroutine) (s':St),
  runNT P n (crowd gs w sl) t=(.next (crowd gs' w' U),O)/\Hp P gs' w' O q' Y g' s'/\K g' s'/\Le' s s'/\w'.tape=w.tape/\Gg w.os w'.os/\w'.output=w.output
 where
  Le' (s s' : St) : Prop := ∀ b o, s.E b = some o -> s'.E b = some o
theorem RL{s s':St}:upd (lone s) 0 s'=lone s':=by
 funext i;unfold upd lone;split <;> rfl
theorem MO{P:Program}{m m':Machine}{t ops:Trace}{k:Nat}{r:Stepped×Trace}(h:stepT P m=(.next m',ops))(K:runNT P k m' (t++ops)=r):runNT P (k+1) m t=r:=by
 simp only [runNT,h];exact K
theorem Hp.at_{P:Program}{gs:Array Goroutine}{w:World}{t:Trace}{q:Nat->Nat}{Sh:Nat->Prop}{g:Goroutine}{s:St}(h:Hp P gs w t q Sh g s)(d:Nat):Hp P gs (w.at d) t q Sh g s:=
 ⟨h.main,h.lv,by
  have:=h.B7.mute (u:= #[]) (w':=w.at d) (g:=0) (by simp) (by simp) (by simp) rfl
  simpa using this,h.over,h.hears⟩
theorem Wv{P:Program}{g:Goroutine}{s:St}{K:Gs_}(be:TO P true g s K):
  ∀(M:Nat) (gs:Array Goroutine) (w:World) (sl:Option (Nat×Nat)) (t:Trace) (q:Nat->Nat) (Sh:Nat->Prop),sumTo gs.size q<=M->Hp P gs w t q Sh g s->Reaches P gs w sl t s K:=by
 intro M
 induction M with
 | zero=>?_
 | succ M b0=>?_
 all_goals
  intro gs w sl t q Sh cy hC;have a0:=be.1;have b1:∀x∈gs,awake x:=by
   intro x al;obtain⟨i,hi,rfl⟩:=Array.mem_iff_getElem.1 al;rcases Nat.eq_zero_or_pos i with rfl | a1
   ·have:gs[0]=g:=by simpa [Array.getElem?_eq_getElem hi] using hC.main
    rw [this];exact awake_of (.inl a0)
   ·exact awake_of ((hC.lv.old i _ a1 (Array.getElem?_eq_getElem hi)).status.elim .inl λx=> .inr (.inr x))
  obtain⟨i,x,d,am,hi,al,bi⟩:=crowd_pick (P:=P) (w:=w) (sl:=sl) b1 ⟨0,g,hC.main,a0⟩;have a2:=hC.at_ d;have a3:0<gs.size:=(Array.getElem?_eq_some_iff.1 hC.main).1;rcases Nat.eq_zero_or_pos i with rfl | a1
  ·obtain rfl:x=g:=by rw [hC.main] at hi;exact(Option.some.inj hi).symm
   have b2:Fits s (w.at d):=a2.B7.fits 0 a3;obtain⟨g',s',w',es,a4,a5,a6,Z,ap⟩:=be.2.1 (w.at d) b2;have a7:=runT_crowd_go (P:=P) (sl:=am) (i:=0) hi (show stepG P (0==0) x (w.at d)=_ from a4);have aq:((gs.map (woken P x g' w')).setIfInBounds 0 g').size=gs.size:=by simp
   have Y:∀op∈MemOp.ofEvents 0 x.frame.fn x.frame.place es,op.g=0:=λop O=>by obtain⟨e,_,rfl⟩:=mem_ofEvents O;rfl
   have b3:deafBehind (Deaf t 0) es=Deaf t 0:=deafBehind_still (λe he=>by
    have:=ap e he
    unfold Ev at this
    constructor <;> intro b4 <;> rw [b4] at this <;> exact this) _
   refine⟨1,_,w',am,t++MemOp.ofEvents 0 x.frame.fn x.frame.place es,q,Sh,g',s',MO (bi.trans a7) V,⟨by simp [a3],⟨λj y U ac=>?_,λj U=>?_⟩,?_,?_,?_⟩,a5,Z.ext,Z.tape,.of Z.os,Z.output⟩
   ·have a8:0≠j:=by omega
    rw [Array.getElem?_setIfInBounds_ne a8,Array.getElem?_map] at ac;obtain⟨z,a9,rfl⟩:=Option.map_eq_some_iff.1 ac;have ag:=hC.lv.old j z U a9;rw [woken_quitsD ag,Deaf_other t (by omega) _ Y];exact ag
   ·rw [Deaf_other t (g':=0) (by simp at U;omega) _ Y];exact hC.lv.above j (by simpa using U)
   ·rw [aq,← RL (s:=s)];exact a2.B7.own a3 a6 (by simpa [lone] using Z) (by simpa [lone] using ap)
   ·exact handedOver_app hC.over λop O=> .inl (Y op O)
   ·rw [Deaf_own,b3];exact hC.hears
  ·
   have ag:=hC.lv.old i x a1 hi;have b5:(i==0)=false:=by simp;omega
   have bo:i<gs.size:=(Array.getElem?_eq_some_iff.1 hi).1;cases bb:q i with
   | zero=>rw [bb] at ag;rw [ag.1] at al;cases al
   | succ k=>
    rw [bb] at ag;rcases ag with⟨b6,_⟩ | ⟨_,x',es,hm,ca,cc⟩
    ·rw [b6] at al;cases al
    have cJ:sumTo gs.size (upd q i k)+(k+1)=sumTo gs.size q+k:=by
     have:=sumTo_upd q k id bo;simpa [bb] using this
    first
     | (exfalso;omega)
     | (
      have a7:=runT_crowd_go (P:=P) (sl:=am) (i:=i) hi (by rw [b5];exact ca (w.at d))
      have aq:((gs.map (woken P x x' (w.at d))).setIfInBounds i x').size=gs.size:=by simp
      have Y:∀op∈MemOp.ofEvents i x.frame.fn x.frame.place es,op.g=i:=λop O=>by obtain⟨e,_,rfl⟩:=mem_ofEvents O;rfl
      have bv:∀op∈MemOp.ofEvents i x.frame.fn x.frame.place es,op.act.touch? =none:=λop O=>by obtain⟨e,he,rfl⟩:=mem_ofEvents O;exact touch_mute (hm e he)
      have ce:Hp P ((gs.map (woken P x x' (w.at d))).setIfInBounds i x') (w.at d) (t++MemOp.ofEvents i x.frame.fn x.frame.place es) (upd q i k) Sh g s:=by
       refine⟨?_,⟨λj y U ac=>?_,λj U=>?_⟩,?_,?_,?_⟩
       ·have a8:i≠0:=by omega
        rw [Array.getElem?_setIfInBounds_ne a8,Array.getElem?_map,hC.main]
        simp [woken_run a0]
       ·by_cases aw:i=j
        ·subst aw
         rw [Array.getElem?_setIfInBounds_self_of_lt (by simpa using bo)] at ac
         obtain rfl:=Option.some.inj ac
         rw [upd_same,Deaf_own]
         exact cc
        ·rw [Array.getElem?_setIfInBounds_ne aw,Array.getElem?_map] at ac
         obtain⟨z,a9,rfl⟩:=Option.map_eq_some_iff.1 ac
         have bw:=hC.lv.old j z U a9
         rw [woken_quitsD bw,upd_ne q k (Ne.symm aw),Deaf_other t aw _ Y]
         exact bw
       ·rw [Deaf_other t (g':=i) (by simp at U;omega) _ Y]
        exact hC.lv.above j (by simpa using U)
       ·rw [aq]
        exact a2.B7.mute Y bv (λop O=>by obtain⟨e,he,rfl⟩:=mem_ofEvents O;exact low_mute (hm e he) _) V
       ·exact handedOver_app hC.over λop O=> .inr (bv op O)
       ·rw [Deaf_other t (by omega) _ Y];exact hC.hears
      obtain⟨n,gs',w',ci,co,q',cp,g',s',a4,a5,a6,Z,ap,ct,cw⟩:=b0 _ (w.at d) am _ _ Sh (by rw [aq];omega) ce
      exact⟨n+1,gs',w',ci,co,q',cp,g',s',MO (bi.trans a7) a4,a5,a6,Z,ap,ct,cw⟩)
def GK(P:Program):Judge P where
 main:=true
 ok Q g s:=∀gs w sl t q Sh,Hp P gs w t q Sh g s->Reaches P gs w sl t s Q
 stop {Q g s} h:=λgs w sl t q Sh hC=>⟨0,gs,w,sl,t,q,Sh,g,s,rfl,hC,h,λ_ _ h=>h,rfl,.refl _,rfl⟩
 step {Q g s} h:=λgs w sl t q Sh hC=>by
  obtain⟨n,gs',w',K,O,q',U,g',s',Y,Z,ac,ag,al,am,ap⟩:=Wv h _ gs w sl t q Sh (Nat.le_refl _) hC
  obtain⟨aq,aw,a0,a1,a2,a3,a4,a5,a6,k1,a7,a8,a9,bb,be,bi⟩:=ac gs' w' K O q' U Z
  refine⟨n+aq,aw,a0,a1,a2,a3,a4,a5,a6,?_,a7,a8,λb o h=>a9 b o (ag b o h),bb.trans al,am.trans be,bi.trans ap⟩
  rw [runNT_add,Y];exact k1
 trans {Q R g s} h k:=λgs w sl t q Sh hC=>by
  obtain⟨n,gs',w',K,O,q',U,g',s',Y,Z,ac,ag,al,am,ap⟩:=h gs w sl t q Sh hC
  obtain⟨aq,aw,a0,a1,a2,a3,a4,a5,a6,k1,a7,a8,a9,bb,be,bi⟩:=k g' s' ac gs' w' K O q' U Z
  refine⟨n+aq,aw,a0,a1,a2,a3,a4,a5,a6,?_,a7,a8,λb o h=>a9 b o (ag b o h),bb.trans al,am.trans be,bi.trans ap⟩
  rw [runNT_add,Y];exact k1
 ghost {Q g s s₀} bo h:=λgs w sl t q Sh hC=>by
  have bv:0<gs.size:=(Array.getElem?_eq_some_iff.1 hC.main).1
  have bw:Hp P gs w t q Sh g s₀:=⟨hC.main,hC.lv,by
   rw [← RL (s:=s)];exact hC.B7.ghost bv (by simpa [lone] using bo),hC.over,hC.hears⟩
  obtain⟨n,gs',w',K,O,q',U,g',s',Y,Z,ac,ag,al,am,ap⟩:=h gs w sl t q Sh bw
  exact⟨n,gs',w',K,O,q',U,g',s',Y,Z,ac,λb o h=>ag b o (bo.ext b o h),al,am,ap⟩
end Pal
namespace Pal
open Go Go.Conc
open Go.ConcN (upd upd_same upd_ne)
section
variable {t u:Trace}{w w':World}{N:Nat}{S:Nat->St}{Sh:Nat->Prop}
theorem BS.ext(h:BS t w N S Sh)(ag:∀said,¬Race said (t++u))(hu:∀op∈u,∀a,op.act.touch? =some a->∀b,CH a.loc=some b->Sh b)
  (al:∀op∈u,op.act.low w.heap.size) (Z:w'.heap.size=w.heap.size) (hw:∀b,¬Sh b->w'.heap[b]? =w.heap[b]?):BS (t++u) w' N S Sh:=by
 have hold:∀x a b,touchAt (t++u) x=some a->CH a.loc=some b->¬Sh b->touchAt t x=some a:=by
  intro x a b U hb O;obtain⟨op,K,ac⟩:=touch_of U;rcases getElem?_append_cases K with⟨a0,am⟩ | ⟨_,ap⟩
  ·rw [touchAt_of am];exact ac
  ·exact absurd (hu op ap a ac b hb) O
 have O:∀i,i<N->∀b,((S i).H b≠none∨(S i).E b≠none)->¬Sh b:=by
  intro i hi b hb aq;have:=h.sh i hi b aq;exact hb.elim (λx=>x this.1) (λx=>x this.2)
 refine⟨λi hi=>⟨λb o K=>?_,λb o K=>?_,(h.fits i hi).d⟩,h.hh,h.sh,λb hb=>by rw [Z];exact h.Gd b hb,ag,λop K=>?_,λi hi b hb x a U Y=>?_,λi hi b hb x a U Y aw=>?_⟩
 ·rw [hw b (O i hi b (.inr (by rw [K];simp)))];exact(h.fits i hi).e b o K
 ·rw [hw b (O i hi b (.inl (by rw [K];simp)))];exact(h.fits i hi).h b o K
 ·rcases Array.mem_append.1 K with K | K
  ·rw [Z];exact h.low op K
  ·rw [Z];exact al op K
 ·exact(h.kH i hi b hb x a (hold x a b U Y (O i hi b (.inl hb))) Y).app _
 ·exact(h.kE i hi b hb x a (hold x a b U Y (O i hi b (.inr hb))) Y aw).app _
theorem BS.congr{S':Nat->St}(h:BS t w N S Sh)(K:∀i,i<N->(S' i).E=(S i).E/\(S' i).H=(S i).H):BS t w N S' Sh:=by
 refine⟨λi hi=>⟨by rw [(K i hi).1];exact(h.fits i hi).e,by rw [(K i hi).2];exact(h.fits i hi).h,by rw [(K i hi).1,(K i hi).2];exact(h.fits i hi).d⟩,λi j hi O U b=>?_,λi hi b=>?_,h.Gd,h.clean,h.low,λi hi b=>?_,λi hi b=>?_⟩
 ·rw [(K i hi).2,(K j O).1,(K j O).2];exact h.hh i j hi O U b
 ·rw [(K i hi).1,(K i hi).2];exact h.sh i hi b
 ·rw [(K i hi).2];exact h.kH i hi b
 ·rw [(K i hi).1];exact h.kE i hi b
theorem BS.less(h:BS t w N S Sh){i:Nat}{s':St}(am:∀b o,s'.E b=some o->(S i).E b=some o)(ap:∀b o,s'.H b=some o->(S i).H b=some o):BS t w N (upd S i s') Sh:=by
 have Y:∀j b o,(upd S i s' j).E b=some o->(S j).E b=some o:=by
  intro j b o K;by_cases e:j=i
  ·subst e;rw [upd_same] at K;exact am b o K
  ·rwa [upd_ne _ _ e] at K
 have e2:∀j b o,(upd S i s' j).H b=some o->(S j).H b=some o:=by
  intro j b o K;by_cases e:j=i
  ·subst e;rw [upd_same] at K;exact ap b o K
  ·rwa [upd_ne _ _ e] at K
 have n1:∀j b,(S j).E b=none->(upd S i s' j).E b=none:=by
  intro j b hb;cases U:(upd S i s' j).E b with
  | none=>rfl
  | some o=>rw [Y j b o U] at hb;cases hb
 have n2:∀j b,(S j).H b=none->(upd S i s' j).H b=none:=by
  intro j b hb;cases U:(upd S i s' j).H b with
  | none=>rfl
  | some o=>rw [e2 j b o U] at hb;cases hb
 have Z:∀j b,(upd S i s' j).E b≠none->(S j).E b≠none:=λj b hb x=>hb (n1 j b x);have p2:∀j b,(upd S i s' j).H b≠none->(S j).H b≠none:=λj b hb x=>hb (n2 j b x);exact⟨λj O=>⟨λb o K=>(h.fits j O).e b o (Y j b o K),λb o K=>(h.fits j O).h b o (e2 j b o K),λb hb=>n2 j b ((h.fits j O).d b (Z j b hb))⟩,
  λa c ac ag al b hb=>⟨n2 c b (h.hh a c ac ag al b (p2 a b hb)).1,n1 c b (h.hh a c ac ag al b (p2 a b hb)).2⟩,
  λj O b hb=>⟨n2 j b (h.sh j O b hb).1,n1 j b (h.sh j O b hb).2⟩,h.Gd,h.clean,h.low,
  λj O b hb=>h.kH j O b (p2 j b hb),λj O b hb=>h.kE j O b (Z j b hb)⟩
theorem BS.push(h:BS t w N S Sh){i:Nat}(hi:i<N){E:LH}(ac:∀b o,E b=some o->(S i).E b=some o)
  (am:∀b,E b≠none->∀x a,touchAt t x=some a->CH a.loc=some b->a.write=true->Knows t N x):BS t w (N+1) (upd S N ⟨E,λ_=>none,false⟩) Sh:=by
 have O:∀j,j<N->upd S N ⟨E,λ_=>none,false⟩ j=S j:=λj K=>upd_ne _ _ (by omega);have aq:∀b,E b≠none->(S i).E b≠none:=λb hb=>by obtain⟨o,Y⟩:=H4 hb;rw [ac b o Y];simp
 have al:∀b,(S i).E b=none->E b=none:=λb hb=>by
  cases ag:E b with
  | none=>rfl
  | some o=>rw [ac b o ag] at hb;cases hb
 have cs:∀j,j<N+1->j<N∨j=N:=λj K=>by omega
 constructor
 ·intro j K;rcases cs j K with K | rfl
  ·rw [O j K];exact h.fits j K
  ·rw [upd_same];exact⟨λb o Y=>(h.fits i hi).e b o (ac b o Y),λb o Y=>(by cases Y),λb _=>V⟩
 ·intro a c U Z ap b hb;rcases cs a U with U | rfl
  ·rw [O a U] at hb;rcases cs c Z with Z | rfl
   ·rw [O c Z];exact h.hh a c U Z ap b hb
   ·rw [upd_same];refine⟨V,al b ?_⟩;by_cases e:a=i
    ·subst e;cases ag:(S a).E b with
     | none=>rfl
     | some o=>exact absurd ((h.fits a U).d b (by rw [ag];simp)) hb
    ·exact(h.hh a i U hi e b hb).2
  ·rw [upd_same] at hb;exact absurd V hb
 ·intro j K b hb;rcases cs j K with K | rfl
  ·rw [O j K];exact h.sh j K b hb
  ·rw [upd_same];exact⟨V,al b (h.sh i hi b hb).2⟩
 ·exact h.Gd
 ·exact h.clean
 ·exact h.low
 ·intro j K b hb;rcases cs j K with K | rfl
  ·rw [O j K] at hb;exact h.kH j K b hb
  ·rw [upd_same] at hb;exact absurd V hb
 ·intro j K b hb;rcases cs j K with K | rfl
  ·rw [O j K] at hb;exact h.kE j K b hb
  ·rw [upd_same] at hb;exact am b hb
theorem BS.share(h:BS t w N S Sh){i:Nat}(hi:i<N){b₀:Nat}{o₀:Obj}(U:(S i).H b₀=some o₀):
  BS t w N (upd S i {S i with H:=λb=>if b=b₀ then none else(S i).H b}) (λb=>Sh b∨b=b₀):=by
 have K:BS t w N (upd S i {S i with H:=λb=>if b=b₀ then none else(S i).H b}) Sh:=
  h.less (λb o O=>O) (λb o O=>by simp only at O;split at O <;> first | (cases O;done) | exact O)
 have ac:b₀<w.heap.size:=by
  have:=(h.fits i hi).h b₀ o₀ U;rcases Nat.lt_or_ge b₀ w.heap.size with Y | Y
  ·exact Y
  ·simp [Array.getElem?_eq_none Y] at this
 refine⟨K.fits,K.hh,λj Z b hb=>?_,λb hb=>hb.elim (K.Gd b) (λe=>e▸ac),K.clean,K.low,K.kH,K.kE⟩;rcases hb with hb | rfl
 ·exact K.sh j Z b hb
 ·by_cases e:j=i
  ·subst e;rw [upd_same];refine⟨by simp,?_⟩;cases ag:(S j).E b with
   | none=>rfl
   | some o=>have:=(h.fits j Z).d b (by rw [ag];simp);rw [U] at this;cases this
  ·rw [upd_ne _ _ e];exact h.hh i j hi Z (Ne.symm e) b (by rw [U];simp)
end
end Pal
