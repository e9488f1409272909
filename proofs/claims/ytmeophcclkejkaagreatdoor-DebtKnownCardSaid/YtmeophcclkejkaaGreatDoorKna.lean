/- DebtKnown states that the examples of the chapter have the results given there.: a part (1 of 9) of the proof of its row. -/
import Derived.Conc.Own5
import Derived.Conc.Listed
import Derived.Conc.DeferLaws
import Derived.Orders
import Derived.Conc.Beside
import Derived.Conc.CrowdComm
import Derived.Conc.TokenWalk
import Derived.Conc.MarkLaws
import Derived.Conc.AtomicLaws2
import Derived.Conc.ClockLaws
set_option linter.all false
set_option maxRecDepth 100000
namespace Pal
open Go Go.Conc
theorem V{α:Sort _}{a:α}:a=a:=rfl
abbrev LH:=Nat->Option Obj
structure St where
 E:LH
 H:LH
 q:Bool
abbrev Ld_:=List Deferred
abbrev Ao_:=Array Oper
abbrev Li_:=List Item
abbrev Lf_:=List Frame
abbrev On_:=Option (Nat×Bool)
abbrev Ae_:=Array Edge
abbrev Gs_:=Goroutine->St->Prop
abbrev Lv_:=List Value
abbrev Av_:=Array Value
def St.get(s:St)(b:Nat):Option Obj:=match s.E b with | some o=>some o | none=>s.H b
structure Fits (s:St) (w:World):Prop where
 e:∀b o,s.E b=some o->w.heap[b]? =some o
 h:∀b o,s.H b=some o->w.heap[b]? =some o
 d:∀b,s.E b≠none->s.H b=none
theorem Fits.get{s:St}{w:World}(f:Fits s w){b:Nat}{o:Obj}(h:s.get b=some o):w.heap[b]? =some o:=by
 unfold St.get at h;split at h
 ·rename_i o' K;cases h;exact f.e _ _ K
 ·exact f.h _ _ h
theorem Fits.Ut{s:St}{w:World}(f:Fits s w){b:Nat}{o:Obj}(h:s.H b=some o):b<w.heap.size:=by
 have:=f.h _ _ h;rcases Nat.lt_or_ge b w.heap.size with K | K
 ·exact K
 ·simp [Array.getElem?_eq_none K] at this
theorem Fits.lt{s:St}{w:World}(f:Fits s w){b:Nat}{o:Obj}(h:s.get b=some o):b<w.heap.size:=by
 have:=f.get h;rcases Nat.lt_or_ge b w.heap.size with K | K
 ·exact K
 ·simp [Array.getElem?_eq_none K] at this
def cellAt(o:Obj)(a:Addr):Option Value:=match o with | .cells c _ _=>if a.spot.isSome then none else c[a.off]? | _=>none
def frozenAt(o:Obj)(a:Addr):Bool:=match o with | .cells _ _ (lo,hi)=>lo<=a.off&&a.off<hi | _=>false
def shapeOf(o:Obj):Option (TypeId×Nat):=match o with | .cells c e _=>some (e,c.size) | _=>none
def B3:Value->Bool | .agg _ | .tuple _=>false | _=>true
def Kl(o:Obj)(a:Addr)(v:Value):Obj:=match o with | .cells c e f=> .cells (if a.spot.isSome then c else c.setIfInBounds a.off v) e f | o=>o
def Jp(o:Obj):Bool:=match o with | .cells ..=>false | .chan ..=>false | .pending ..=>false | .view ..=>false | .number ..=>false | _=>true
def St.cell? (s:St)(a:Addr):Option Value:=(s.get a.block).bind (cellAt · a)
def St.upd(s:St)(b:Nat)(o:Obj):St:={s with H:=λx=>if x=b then some o else s.H x}
theorem QJ{w:World}{a:Addr}{o:Obj}(h:w.heap[a.block]? =some o):w.cell? a=cellAt o a:=by
 unfold World.cell? cellAt;rw [h];cases o <;> rfl
theorem Qo{w:World}{a:Addr}{o:Obj}(h:w.heap[a.block]? =some o):w.frozen? a=frozenAt o a:=by
 unfold World.frozen? frozenAt;rw [h];cases o <;> rfl
theorem UY{w:World}{b:Nat}{o:Obj}(h:w.heap[b]? =some o):w.shape? b=shapeOf o:=by
 unfold World.shape? shapeOf;rw [h];cases o <;> rfl
def lp(P:Program){α:Type}:Sem α->St->(α->St->Prop)->(Halt->St->Prop)->Prop
 | .pure a,s,Q,_=>Q a s
 | .load m a k,s,Q,X=>m= .plain/\∃v,s.cell? a=some v/\lp P (k v) s Q X
 | .store m a v k,s,Q,X=>m= .plain/\B3 v=true/\∃o,s.H a.block=some o/\(cellAt o a).isSome=true/\frozenAt o a=false/\lp P k (s.upd a.block (Kl o a v)) Q X
 | .new o k,s,Q,X=>s.q=false/\∀r,s.E r=none->s.H r=none->lp P (k r) (s.upd r o) Q X
 | .shape r k,s,Q,X=>∃o,s.get r=some o/\lp P (k (shapeOf o)) s Q X
 | .freeze _ _ _,_,_,_=>False
 | .frozen a k,s,Q,X=>∃o,s.get a.block=some o/\lp P (k (frozenAt o a)) s Q X
 | .getObj r k,s,Q,X=>∃o,s.get r=some o/\Jp o=true/\lp P (k o) s Q X
 | .setObj r o k,s,Q,X=>(∃o₀,s.H r=some o₀/\Jp o₀=true)/\Jp o=true/\lp P k (s.upd r o) Q X
 | .choose q k,s,Q,X=>if q.forced then lp P (k 0) s Q X else s.q=false/\∀t,lp P (k (q.cut t)) s Q X
 | .sys _ _,_,_,_=>False
 | .program k,s,Q,X=>lp P (k P) s Q X
 | .mark m k,s,Q,X=>((s.q=false/\m= .noRoom)∨∃f,m= .extern f)/\lp P k s Q X
 | .halt h,s,_,X=>X h s
theorem DO{P:Program}{α:Type}(x:Sem α):∀{s:St} {Q V:α->St->Prop} {X Y:Halt->St->Prop},lp P x s Q X->(∀a s,Q a s->V a s)->(∀h s,X h s->Y h s)->lp P x s V Y:=by
 induction x with
 | pure a=>intro s Q V X Y h K O;exact K _ _ h
 | load m a k U=>intro s Q V X Y h K O;obtain⟨Z,v,ac,ag⟩:=h;exact⟨Z,v,ac,U _ ag K O⟩
 | store m a v k U=>intro s Q V X Y h K O;obtain⟨Z,ac,o,ag,am,ap,aq⟩:=h;exact⟨Z,ac,o,ag,am,ap,U aq K O⟩
 | new o k U=>intro s Q V X Y h K O;exact⟨h.1,λr Z ac=>U _ (h.2 r Z ac) K O⟩
 | shape r k U=>intro s Q V X Y h K O;obtain⟨o,Z,ac⟩:=h;exact⟨o,Z,U _ ac K O⟩
 | freeze a n k U=>intro s Q V X Y h K O;exact h
 | frozen a k U=>intro s Q V X Y h K O;obtain⟨o,Z,ac⟩:=h;exact⟨o,Z,U _ ac K O⟩
 | getObj r k U=>intro s Q V X Y h K O;obtain⟨o,Z,ac,ag⟩:=h;exact⟨o,Z,ac,U _ ag K O⟩
 | setObj r o k U=>intro s Q V X Y h K O;obtain⟨Z,ac,ag⟩:=h;exact⟨Z,ac,U ag K O⟩
 | choose q k U=>
  intro s Q V X Y h K O;simp only [lp] at h ⊢;split
  ·rename_i al;rw [if_pos al] at h;exact U _ h K O
  ·rename_i al;rw [if_neg al] at h;exact⟨h.1,λt=>U _ (h.2 t) K O⟩
 | sys c k U=>intro s Q V X Y h K O;exact h
 | program k U=>intro s Q V X Y h K O;exact U _ h K O
 | mark m k U=>intro s Q V X Y h K O;exact⟨h.1,U h.2 K O⟩
 | halt h=>intro s Q V X Y h K O;exact O _ _ h
theorem Ar{P:Program}{α β:Type}(x:Sem α)(f:α->Sem β):∀{s:St} {Q:β->St->Prop} {X:Halt->St->Prop},lp P x s (λa s'=>lp P (f a) s' Q X) X->lp P (x>>=f) s Q X:=by
 show ∀{s:St} {Q:β->St->Prop} {X:Halt->St->Prop},lp P x s (λa s'=>lp P (f a) s' Q X) X->lp P (Sem.bind x f) s Q X
 induction x with
 | pure a=>intro s Q X h;exact h
 | load m a k K=>intro s Q X h;obtain⟨O,v,U,V⟩:=h;exact⟨O,v,U,K _ V⟩
 | store m a v k K=>intro s Q X h;obtain⟨O,U,o,V,Z,ac,ag⟩:=h;exact⟨O,U,o,V,Z,ac,K ag⟩
 | new o k K=>intro s Q X h;exact⟨h.1,λr O U=>K _ (h.2 r O U)⟩
 | shape r k K=>intro s Q X h;obtain⟨o,O,U⟩:=h;exact⟨o,O,K _ U⟩
 | freeze a n k K=>intro s Q X h;exact h
 | frozen a k K=>intro s Q X h;obtain⟨o,O,U⟩:=h;exact⟨o,O,K _ U⟩
 | getObj r k K=>intro s Q X h;obtain⟨o,O,U,V⟩:=h;exact⟨o,O,U,K _ V⟩
 | setObj r o k K=>intro s Q X h;obtain⟨O,U,V⟩:=h;exact⟨O,U,K V⟩
 | choose q k K=>
  intro s Q X h;simp only [lp,Sem.bind] at h ⊢;split
  ·rename_i Y;rw [if_pos Y] at h;exact K _ h
  ·rename_i Y;rw [if_neg Y] at h;exact⟨h.1,λt=>K _ (h.2 t)⟩
 | sys c k K=>intro s Q X h;exact h
 | program k K=>intro s Q X h;exact K _ h
 | mark m k K=>intro s Q X h;exact⟨h.1,K h.2⟩
 | halt h=>intro s Q X h;exact h
structure Fr (s:St) (w:World) (s':St) (w':World):Prop where
 size:w.heap.size<=w'.heap.size
 keep:∀b,b<w.heap.size->s.H b=none->w'.heap[b]? =w.heap[b]?
 own:∀b,s'.H b≠none->s.H b≠none∨w.heap.size<=b
 ext:∀b o,s.E b=some o->s'.E b=some o
 EB:∀b,s'.E b≠none->s.E b≠none∨s.H b≠none∨w.heap.size<=b
 tape:w'.tape=w.tape
 os:w'.os=w.os
 output:w'.output=w.output
theorem Fr.refl(s:St)(w:World):Fr s w s w:=
 ⟨Nat.le_refl _,λ_ _ _=>V,λ_ h=> .inl h,λ_ _ h=>h,λ_ h=> .inl h,V,V,V⟩
theorem Fr.trans{s K O:St}{w U V:World}(h:Fr s w K U)(k:Fr K U O V):Fr s w O V where
 size:=Nat.le_trans h.size k.size
 keep b hb Y:=by
  rw [k.keep b (Nat.lt_of_lt_of_le hb h.size) ?_,h.keep b hb Y];by_cases Z:K.H b=none
  ·exact Z
  ·rcases h.own b Z with x | x
   ·exact absurd Y x
   ·omega
 own b hb:=by
  rcases k.own b hb with x | x
  ·exact h.own b x
  ·exact .inr (Nat.le_trans h.size x)
 ext b o ac:=k.ext b o (h.ext b o ac)
 EB b hb:=by
  rcases k.EB b hb with x | x | x
  ·exact h.EB b x
  ·rcases h.own b x with y | y
   ·exact .inr (.inl y)
   ·exact .inr (.inr y)
  ·exact .inr (.inr (Nat.le_trans h.size x))
 tape:=k.tape.trans h.tape
 os:=k.os.trans h.os
 output:=k.output.trans h.output
def GB(s:St)(w w':World)(b:Nat)(write:Bool):Prop:=
 b<w'.heap.size/\(s.H b≠none∨w.heap.size<=b∨(s.E b≠none/\write=false))
def Ev(s:St)(w w':World)(e:Event):Prop:=
 match e.loc with
 | .cell a=>e.sync=false/\GB s w w' a.block e.write
 | .obj r=>e.sync=false/\GB s w w' r e.write
 | .mark (.extern _)=>True
 | .mark .noRoom=>True
 | _=>False
theorem GB.Ag{s K:St}{w O w' U:World}{b:Nat}{wr:Bool}(h:Fr s w K O)(V:w'.heap.size<=U.heap.size)(t:GB K O w' b wr):GB s w U b wr:=by
 refine⟨Nat.lt_of_lt_of_le t.1 V,?_⟩;rcases t.2 with x | x | ⟨x,y⟩
 ·rcases h.own b x with z | z
  ·exact .inl z
  ·exact .inr (.inl z)
 ·exact .inr (.inl (Nat.le_trans h.size x))
 ·rcases h.EB b x with z | z | z
  ·exact .inr (.inr ⟨z,y⟩)
  ·exact .inl z
  ·exact .inr (.inl z)
theorem Ev.Ag{s K:St}{w O w' U:World}{e:Event}(h:Fr s w K O)(V:w'.heap.size<=U.heap.size)(t:Ev K O w' e):Ev s w U e:=by
 unfold Ev at t ⊢;split <;> rename_i he <;> simp only [he] at t
 ·exact⟨t.1,t.2.Ag h V⟩
 ·exact⟨t.1,t.2.Ag h V⟩
 ·trivial
 ·trivial
def Kp{α:Type}:Result α->World | .ok _ w=>w | .halt _ w=>w
def ZD{α:Type}(Q:α->St->Prop)(X:Halt->St->Prop)(s:St):Result α->Prop | .ok a _=>Q a s | .halt h _=>X h s
theorem Rq{s:St}{b:Nat}{o:Obj}(h:s.get b=some o)(K:s.H b=none):s.E b≠none:=by
 intro e;unfold St.get at h;rw [e] at h;simp only at h;rw [K] at h;cases h
theorem OC{s:St}{w w':World}{b:Nat}{o:Obj}(f:Fits s w)(U:s.E b=none)(hb:w'.heap[b]? =some o)(V:∀c,c≠b->∀x,w.heap[c]? =some x->w'.heap[c]? =some x):Fits (s.upd b o) w' where
 e c x K:=by
  have O:c≠b:=λe=>by subst e;simp [St.upd] at K;rw [U] at K;cases K
  exact V c O x (f.e c x K)
 h c x K:=by
  simp only [St.upd] at K;split at K
  ·rename_i e;subst e;cases K;exact hb
  ·rename_i O;exact V c O x (f.h c x K)
 d c K:=by
  have O:c≠b:=λe=>by subst e;exact K U
  simp only [St.upd,if_neg O];exact f.d c K
theorem MT{P:Program}{α:Type}(x:Sem α):∀{s:St} {w:World} {Q:α->St->Prop} {X:Halt->St->Prop},lp P x s Q X->Fits s w->
  ∃s',Fits s' (Kp (x.run P w))/\Fr s w s' (Kp (x.run P w))/\(∀e∈x.events P w #[],Ev s w (Kp (x.run P w)) e)/\ZD Q X s' (x.run P w):=by
 induction x with
 | pure a=>intro s w Q X h f;exact⟨s,f,.refl _ _,by simp [Sem.events_pure'],h⟩
 | load m a k O=>
  intro s w Q X h f;obtain⟨rfl,v,a4,h⟩:=h;obtain⟨o,K,bn⟩:=Option.bind_eq_some_iff.1 a4;have hw:=f.get K;have a5:w.cell? a=some v:=by rw [QJ hw,bn]
  have U:(Sem.load Mode.plain a k).run P w=(k v).run P w:=by simp [Sem.run,a5]
  have V:(Sem.load Mode.plain a k).events P w #[]= #[⟨.cell a,false,false⟩]++(k v).events P w #[]:=by
   rw [← Sem.events_acc];simp only [Sem.events,Sem.runT,a5];rfl
  rw [U,V];obtain⟨s',Z,Y,ac,ag⟩:=O v h f;refine⟨s',Z,Y,λe he=>?_,ag⟩;rcases Array.mem_append.1 he with he | he
  ·simp at he;subst he;refine⟨rfl,Nat.lt_of_lt_of_le (f.lt K) Y.size,?_⟩;by_cases az:s.H a.block=none
   ·refine .inr (.inr ⟨?_,rfl⟩);exact Rq K az
   ·exact .inl az
  ·exact ac e he
 | store m a v k O=>
  intro s w Q X h f;obtain⟨rfl,a4,o,K,a5,bo,h⟩:=h;have hw:=f.h _ _ K;obtain⟨u,hu⟩:=Option.isSome_iff_exists.1 a5;have bb:w.cell? a=some u:=by rw [QJ hw,hu]
  have bd:w.frozen? a=false:=by rw [Qo hw,bo]
  have a6:=f.Ut K;obtain⟨a8,a9,f0,rfl⟩:∃c e f,o= .cells c e f:=by cases o <;> simp [cellAt] at hu;exact⟨_,_,_,rfl⟩
  have bv:(w.setCell a v).heap[a.block]? =some (Kl (.cells a8 a9 f0) a v):=by
   simp [World.setCell,Kl,Array.getElem?_modify,hw]
  have a0:∀c,c≠a.block->(w.setCell a v).heap[c]? =w.heap[c]? :=by
   intro c ap;simp [World.setCell,Array.getElem?_modify,Ne.symm ap]
  have am:s.E a.block=none:=by
   cases am:s.E a.block with
   | none=>rfl
   | some x=>have:=f.d a.block (by rw [am];simp);rw [K] at this;cases this
  have a1:Fits (s.upd a.block (Kl (.cells a8 a9 f0) a v)) (w.setCell a v):=OC f am bv (λc ap x aq=>by rw [a0 c ap];exact aq);have U:(Sem.store Mode.plain a v k).run P w=k.run P (w.setCell a v):=by
   cases v <;> first | (simp [B3] at a4;done) | simp [Sem.run,bb,bd]
  have V:(Sem.store Mode.plain a v k).events P w #[]= #[⟨.cell a,true,false⟩]++k.events P (w.setCell a v) #[]:=by
   rw [← Sem.events_acc];cases v <;> first | (simp [B3] at a4;done) | (simp only [Sem.events,Sem.runT,bb,bd];rfl)
  have al:Fr s w (s.upd a.block (Kl (.cells a8 a9 f0) a v)) (w.setCell a v):=by
   refine⟨by simp [World.setCell],λb hb aw=>a0 b (λe=>by subst e;rw [K] at aw;cases aw),λb hb=>?_,λ_ _ h=>h,λ_ h=> .inl h,rfl,rfl,rfl⟩;simp only [St.upd] at hb;split at hb
   ·rename_i e;subst e;exact .inl (by rw [K];simp)
   ·exact .inl hb
  rw [U,V];obtain⟨s',Z,Y,ac,ag⟩:=O h a1;refine⟨s',Z,al.trans Y,λe he=>?_,ag⟩;rcases Array.mem_append.1 he with he | he
  ·simp at he;subst he;exact⟨rfl,Nat.lt_of_lt_of_le a6 (al.trans Y).size,.inl (by rw [K];simp)⟩
  ·exact(ac e he).Ag al (Nat.le_refl _)
 | new o k O=>
  intro s w Q X h f;have be:s.E w.heap.size=none:=by
   cases am:s.E w.heap.size with
   | none=>rfl
   | some x=>have:=f.e _ _ am;simp at this
  have bw:s.H w.heap.size=none:=by
   cases am:s.H w.heap.size with
   | none=>rfl
   | some x=>have:=f.h _ _ am;simp at this
  have U:(Sem.new o k).run P w=(k w.heap.size).run P {w with heap:=w.heap.push o}:=by simp [Sem.run]
  have V:(Sem.new o k).events P w #[]=(k w.heap.size).events P {w with heap:=w.heap.push o} #[]:=by simp only [Sem.events,Sem.runT]
  rw [U,V];have a1:Fits (s.upd w.heap.size o) {w with heap:=w.heap.push o}:=OC f be (by simp) (λc ap x aq=>by
   have:c<w.heap.size:=by
    rcases Nat.lt_or_ge c w.heap.size with a2 | a2
    ·exact a2
    ·simp [Array.getElem?_eq_none a2] at aq
   simp [Array.getElem?_push,Nat.ne_of_lt this,aq])
  have al:Fr s w (s.upd w.heap.size o) {w with heap:=w.heap.push o}:=by
   refine⟨by simp,λb hb aw=>by simp [Array.getElem?_push,Nat.ne_of_lt hb],λb hb=>?_,λ_ _ h=>h,λ_ h=> .inl h,rfl,rfl,rfl⟩;simp only [St.upd] at hb;split at hb
   ·rename_i e;subst e;exact .inr (Nat.le_refl _)
   ·exact .inl hb
  obtain⟨s',Z,Y,ac,ag⟩:=O _ (h.2 _ be bw) a1;exact⟨s',Z,al.trans Y,λe he=>(ac e he).Ag al (Nat.le_refl _),ag⟩
 | shape r k O=>
  intro s w Q X h f;obtain⟨o,K,h⟩:=h;have a3:=UY (f.get K);have U:(Sem.shape r k).run P w=(k (shapeOf o)).run P w:=by simp [Sem.run,a3]
  have V:(Sem.shape r k).events P w #[]=(k (shapeOf o)).events P w #[]:=by simp only [Sem.events,Sem.runT,a3]
  rw [U,V];exact O _ h f
 | freeze a n k O=>intro s w Q X h f;exact h.elim
 | frozen a k O=>
  intro s w Q X h f;obtain⟨o,K,h⟩:=h;have a3:=Qo (a:=a) (f.get K);have U:(Sem.frozen a k).run P w=(k (frozenAt o a)).run P w:=by simp [Sem.run,a3]
  have V:(Sem.frozen a k).events P w #[]=(k (frozenAt o a)).events P w #[]:=by simp only [Sem.events,Sem.runT,a3]
  rw [U,V];exact O _ h f
 | getObj r k O=>
  intro s w Q X h f;obtain⟨o,K,a7,h⟩:=h;have hw:=f.get K;have U:(Sem.getObj r k).run P w=(k o).run P w:=by cases o <;> simp [Jp] at a7 <;> simp [Sem.run,hw]
  have V:(Sem.getObj r k).events P w #[]= #[⟨.obj r,false,false⟩]++(k o).events P w #[]:=by
   rw [← Sem.events_acc];cases o <;> simp [Jp] at a7 <;> (simp only [Sem.events,Sem.runT,hw,Obj.isChan];rfl)
  rw [U,V];obtain⟨s',Z,Y,ac,ag⟩:=O o h f;refine⟨s',Z,Y,λe he=>?_,ag⟩;rcases Array.mem_append.1 he with he | he
  ·simp at he;subst he;refine⟨rfl,Nat.lt_of_lt_of_le (f.lt K) Y.size,?_⟩;by_cases az:s.H r=none
   ·refine .inr (.inr ⟨?_,rfl⟩);exact Rq K az
   ·exact .inl az
  ·exact ac e he
 | setObj r o k O=>
  intro s w Q X h f;obtain⟨⟨o₀,K,bi⟩,a7,h⟩:=h;have hw:=f.h _ _ K;have a6:=f.Ut K;have am:s.E r=none:=by
   cases am:s.E r with
   | none=>rfl
   | some x=>have:=f.d r (by rw [am];simp);rw [K] at this;cases this
  have U:(Sem.setObj r o k).run P w=k.run P {w with heap:=w.heap.setIfInBounds r o}:=by
   cases o₀ <;> simp [Jp] at bi <;> simp [Sem.run,hw]
  have V:(Sem.setObj r o k).events P w #[]= #[⟨.obj r,true,false⟩]++k.events P {w with heap:=w.heap.setIfInBounds r o} #[]:=by
   rw [← Sem.events_acc];cases o₀ <;> simp [Jp] at bi <;> cases o <;> simp [Jp] at a7 <;> (simp only [Sem.events,Sem.runT,hw,Obj.isChan];rfl)
  have a0:∀c,c≠r->(w.heap.setIfInBounds r o)[c]? =w.heap[c]? :=λc ap=>by simp [Ne.symm ap]
  have a1:Fits (s.upd r o) {w with heap:=w.heap.setIfInBounds r o}:=OC f am (by simp [a6]) (λc ap x aq=>by show(w.heap.setIfInBounds r o)[c]? =_;rw [a0 c ap];exact aq);have al:Fr s w (s.upd r o) {w with heap:=w.heap.setIfInBounds r o}:=by
   refine⟨by simp,λb hb aw=>a0 b (λe=>by subst e;rw [K] at aw;cases aw),λb hb=>?_,λ_ _ h=>h,λ_ h=> .inl h,rfl,rfl,rfl⟩;simp only [St.upd] at hb;split at hb
   ·rename_i e;subst e;exact .inl (by rw [K];simp)
   ·exact .inl hb
  rw [U,V];obtain⟨s',Z,Y,ac,ag⟩:=O h a1;refine⟨s',Z,al.trans Y,λe he=>?_,ag⟩;rcases Array.mem_append.1 he with he | he
  ·simp at he;subst he;exact⟨rfl,Nat.lt_of_lt_of_le a6 (al.trans Y).size,.inl (by rw [K];simp)⟩
  ·exact(ac e he).Ag al (Nat.le_refl _)
 | choose q k O=>
  intro s w Q X h f;simp only [lp] at h;by_cases ay:q.forced
  ·rw [if_pos ay] at h;have U:(Sem.choose q k).run P w=(k 0).run P w:=by simp [Sem.run,ay]
   have V:(Sem.choose q k).events P w #[]=(k 0).events P w #[]:=by simp only [Sem.events,Sem.runT];rw [if_pos ay]
   rw [U,V];exact O _ h f
  ·rw [if_neg ay] at h;have U:(Sem.choose q k).run P w=(k (q.cut (w.tape w.drawn q))).run P {w with drawn:=w.drawn+1}:=by simp [Sem.run,ay]
   have V:(Sem.choose q k).events P w #[]=(k (q.cut (w.tape w.drawn q))).events P {w with drawn:=w.drawn+1} #[]:=by simp only [Sem.events,Sem.runT];rw [if_neg ay]
   rw [U,V];have al:Fr s w s {w with drawn:=w.drawn+1}:=⟨Nat.le_refl _,λ_ _ _=>rfl,λ_ h=> .inl h,λ_ _ h=>h,λ_ h=> .inl h,rfl,rfl,rfl⟩;obtain⟨s',Z,Y,ac,ag⟩:=O _ (h.2 (w.tape w.drawn q)) (⟨f.e,f.h,f.d⟩:Fits s {w with drawn:=w.drawn+1});exact⟨s',Z,al.trans Y,λe he=>(ac e he).Ag al (Nat.le_refl _),ag⟩
 | sys c k O=>intro s w Q X h f;exact h.elim
 | program k O=>
  intro s w Q X h f;have U:(Sem.program k).run P w=(k P).run P w:=by simp [Sem.run]
  have V:(Sem.program k).events P w #[]=(k P).events P w #[]:=by simp only [Sem.events,Sem.runT]
  rw [U,V];exact O _ h f
 | mark m k O=>
  intro s w Q X h f;have U:(Sem.mark m k).run P w=k.run P w:=by simp [Sem.run]
  have V:(Sem.mark m k).events P w #[]= #[⟨.mark m,false,true⟩]++k.events P w #[]:=by
   rw [← Sem.events_acc];simp only [Sem.events,Sem.runT];rfl
  rw [U,V];obtain⟨hm,h⟩:=h;obtain⟨s',Z,Y,ac,ag⟩:=O h f;refine⟨s',Z,Y,λe he=>?_,ag⟩;rcases Array.mem_append.1 he with he | he
  ·simp at he;subst he;rcases hm with⟨_,rfl⟩ | ⟨g,rfl⟩ <;> trivial
  ·exact ac e he
 | halt h=>intro s w Q X a2 f;exact⟨s,f,.refl _ _,by simp [Sem.events_halt],a2⟩
theorem Qn{P:Program}{fn:FuncId}{es:Array Event}(h:∀e∈es,∃f,e.loc= .mark (.extern f)):seen P fn es= #[]:=by
 rw [seen_def];have:∀(l:List Event) (q:Bool),(∀e∈l,∃f,e.loc= .mark (.extern f))->(l.foldl (seenStep λf=>(P.funcs[f]?).any (·.norace)) (q,#[])).2= #[]:=by
  intro l
  induction l with
  | nil=>intro q _;rfl
  | cons e l K=>
   intro q h;obtain⟨f,O⟩:=h e (by simp);rw [List.foldl_cons];have:seenStep (λf=>(P.funcs[f]?).any (·.norace)) (q,#[]) e=((P.funcs[f]?).any (·.norace),#[]):=by simp [seenStep,O]
   rw [this];exact K _ λx U=>h x (by simp [U])
 exact this es.toList _ λe he=>h e (Array.mem_toList_iff.1 he)
def St.quiet:St:=⟨λ_=>none,λ_=>none,true⟩
theorem RA{P:Program}{α:Type}(x:Sem α):∀{Q:α->St->Prop} {X:Halt->St->Prop},lp P x .quiet Q X->
  ∃es,(∀w,x.events P w #[]=es)/\(∀e∈es,∃f,e.loc= .mark (.extern f))/\((∃a,Q a .quiet/\(∀w,x.run P w= .ok a w))∨(∃a,X a .quiet/\(∀w,x.run P w= .halt a w))):=by
 induction x with
 | pure a=>intro Q X h;exact⟨#[],λw=>by simp [Sem.events_pure'],by simp,.inl ⟨a,h,λw=>rfl⟩⟩
 | load m a k K=>intro Q X h;obtain⟨_,v,Y,_⟩:=h;simp [St.cell?,St.get,St.quiet] at Y
 | store m a v k K=>intro Q X h;obtain⟨_,_,o,Z,_⟩:=h;cases Z
 | new o k K=>intro Q X h;cases h.1
 | shape r k K=>intro Q X h;obtain⟨o,O,_⟩:=h;simp [St.get,St.quiet] at O
 | freeze a n k K=>intro Q X h;exact h.elim
 | frozen a k K=>intro Q X h;obtain⟨o,O,_⟩:=h;simp [St.get,St.quiet] at O
 | getObj r k K=>intro Q X h;obtain⟨o,O,_⟩:=h;simp [St.get,St.quiet] at O
 | setObj r o k K=>intro Q X h;obtain⟨⟨o,O,_⟩,_⟩:=h;cases O
 | choose q k K=>
  intro Q X h;simp only [lp] at h;by_cases U:q.forced
  ·rw [if_pos U] at h;have V:∀w,(Sem.choose q k).run P w=(k 0).run P w:=λw=>by simp [Sem.run,U]
   have e2:∀w,(Sem.choose q k).events P w #[]=(k 0).events P w #[]:=λw=>by simp only [Sem.events,Sem.runT];rw [if_pos U]
   simpa only [V,e2] using K _ h
  ·rw [if_neg U] at h;cases h.1
 | sys c k K=>intro Q X h;exact h.elim
 | program k K=>
  intro Q X h;have V:∀w,(Sem.program k).run P w=(k P).run P w:=λw=>by simp [Sem.run]
  have e2:∀w,(Sem.program k).events P w #[]=(k P).events P w #[]:=λw=>by simp only [Sem.events,Sem.runT]
  simpa only [V,e2] using K _ h
 | mark m k K=>
  intro Q X h;obtain⟨hm,h⟩:=h;obtain⟨es,O,Y,Z⟩:=K h;have V:∀w,(Sem.mark m k).run P w=k.run P w:=λw=>by simp [Sem.run]
  have e2:∀w,(Sem.mark m k).events P w #[]= #[⟨.mark m,false,true⟩]++k.events P w #[]:=λw=>by rw [← Sem.events_acc];simp only [Sem.events,Sem.runT];rfl
  refine⟨#[⟨.mark m,false,true⟩]++es,λw=>by rw [e2,O],λe he=>?_,by simpa only [V] using Z⟩;rcases Array.mem_append.1 he with he | he
  ·simp at he;subst he;rcases hm with⟨U,_⟩ | hm
   ·cases U
   ·obtain⟨f,rfl⟩:=hm;exact⟨f,rfl⟩
  ·exact Y e he
 | halt h=>intro Q X ac;exact⟨#[],λw=>by simp [Sem.events_halt],by simp,.inr ⟨h,ac,λw=>rfl⟩⟩
def SX(P:Program)(main:Bool)(g:Goroutine)(s:St)(K:Gs_):Prop:=
 g.status= .running/\(∀w,Fits s w->
  ∃g' s' w' es,stepG P main g w= .go g' w' es/\K g' s'/\Fits s' w'/\Fr s w s' w'/\(∀e∈es,Ev s w w' e))/\
  (s= .quiet->∃g',(∀w,stepG P main g w= .go g' w #[])/\K g' .quiet)
structure Cf (s s₀:St):Prop where
 ext:∀b o,s.E b=some o->s₀.E b=some o
 own:∀b o,s₀.H b=some o->s.H b=some o
 EB:∀b o,s₀.E b=some o->s.E b=some o∨(s.H b=some o/\s₀.H b=none)
 q:s₀.q=s.q
theorem Cf.refl(s:St):Cf s s:=⟨λ_ _ h=>h,λ_ _ h=>h,λ_ _ h=> .inl h,V⟩
theorem Cf.fits{s s₀:St}(g:Cf s s₀){w:World}(f:Fits s w):Fits s₀ w where
 e b o h:=by
  rcases g.EB b o h with x | x
  ·exact f.e _ _ x
  ·exact f.h _ _ x.1
 h b o h:=f.h _ _ (g.own _ _ h)
 d b h:=by
  cases K:s₀.E b with
  | none=>exact absurd K h
  | some o=>
   rcases g.EB b o K with x | x
   ·cases O:s₀.H b with
    | none=>rfl
    | some y=>have:=g.own _ _ O;rw [f.d b (by rw [x];simp)] at this;cases this
   ·exact x.2
theorem HW{α:Type}{x:Option α}(h:x≠none):∃a,x=some a:=by cases x <;> simp at h;exact⟨_,rfl⟩
theorem Cf.fr{s s₀ s':St}{w w':World}(g:Cf s s₀)(f:Fr s₀ w s' w'):Fr s w s' w' where
 size:=f.size
 keep b hb O:=f.keep b hb (by
  cases h:s₀.H b with
  | none=>rfl
  | some o=>rw [g.own _ _ h] at O;cases O)
 own b hb:=(f.own b hb).imp (λh=>by obtain⟨o,K⟩:=HW h;rw [g.own _ _ K];simp) id
 ext b o h:=f.ext _ _ (g.ext _ _ h)
 EB b hb:=by
  rcases f.EB b hb with h | h | h
  ·obtain⟨o,K⟩:=HW h;rcases g.EB _ _ K with x | x
   ·exact .inl (by rw [x];simp)
   ·exact .inr (.inl (by rw [x.1];simp))
  ·obtain⟨o,K⟩:=HW h;exact .inr (.inl (by rw [g.own _ _ K];simp))
  ·exact .inr (.inr h)
 tape:=f.tape
 os:=f.os
 output:=f.output
theorem Cf.GB{s s₀:St}{w w':World}{b:Nat}{wr:Bool}(g:Cf s s₀)(t:GB s₀ w w' b wr):GB s w w' b wr:=by
 refine⟨t.1,?_⟩;rcases t.2 with h | h | ⟨h,hw⟩
 ·obtain⟨o,K⟩:=HW h;exact .inl (by rw [g.own _ _ K];simp)
 ·exact .inr (.inl h)
 ·obtain⟨o,K⟩:=HW h;rcases g.EB _ _ K with x | x
  ·exact .inr (.inr ⟨by rw [x];simp,hw⟩)
  ·exact .inl (by rw [x.1];simp)
theorem Cf.ev{s s₀:St}{w w':World}{e:Event}(g:Cf s s₀)(t:Ev s₀ w w' e):Ev s w w' e:=by
 unfold Ev at t ⊢;split <;> rename_i he <;> simp only [he] at t
 ·exact⟨t.1,g.GB t.2⟩
 ·exact⟨t.1,g.GB t.2⟩
 ·trivial
 ·trivial
theorem Cf.quiet{s₀:St}(g:Cf .quiet s₀):s₀= .quiet:=by
 obtain⟨E,H,q⟩:=s₀;have K:E=λ_=>none:=by
  funext b;cases h:E b with
  | none=>rfl
  | some o=>rcases g.EB b o h with x | ⟨x,_⟩ <;> cases x
 have O:H=λ_=>none:=by
  funext b;cases h:H b with
  | none=>rfl
  | some o=>cases g.own b o h
 have U:q=true:=g.q;subst K O U;rfl
inductive Rk:Type where
 | leaf:Rk
 | node (f:World->Rk):Rk
def Rk.sub(a b:Rk):Prop:=∃f w,b= .node f/\a=f w
theorem Rk.wf:WellFounded Rk.sub:=⟨λr=>by
 induction r with
 | leaf=>exact⟨_,λa ⟨f,w,h,_⟩=>by cases h⟩
 | node f K=>exact⟨_,λa ⟨g,w,h,e⟩=>by cases h;subst e;exact K w⟩⟩
def Jr(P:Program)(main:Bool)(Q:Gs_):Rk->Gs_
 | .leaf,g,s=>Q g s
 | .node f,g,s=>Q g s∨(g.status= .running/\∀w,Fits s w->
  ∃g' s' w' es,stepG P main g w= .go g' w' es/\Jr P main Q (f w) g' s'/\Fits s' w'/\Fr s w s' w'/\(∀e∈es,Ev s w w' e)/\(s= .quiet->s'= .quiet/\w'=w/\es= #[]))
structure Judge (P:Program) where
 main:Bool
 ok:(Gs_)->Gs_
 stop:∀{Q g s},Q g s->ok Q g s
 step:∀{Q g s},SX P main g s (ok Q)->ok Q g s
 trans:∀{Q R g s},ok Q g s->(∀g' s',Q g' s'->ok R g' s')->ok R g s
 ghost:∀{Q g s s₀},Cf s s₀->ok Q g s₀->ok Q g s
def JQ(Q:Gs_)(g:Goroutine)(s:St):Prop:=∃s₀,Cf s s₀/\Q g s₀
theorem Cf.trans{a b c:St}(h:Cf a b)(k:Cf b c):Cf a c where
 ext x o y:=k.ext _ _ (h.ext _ _ y)
 own x o y:=h.own _ _ (k.own _ _ y)
 EB x o y:=by
  rcases k.EB x o y with z | z
  ·rcases h.EB x o z with u | u
   ·exact .inl u
   ·refine .inr ⟨u.1,?_⟩;cases K:c.H x with
    | none=>rfl
    | some v=>have:=k.own _ _ K;rw [u.2] at this;cases this
  ·exact .inr ⟨h.own _ _ z.1,z.2⟩
 q:=k.q.trans h.q
def AY(P:Program)(main:Bool):Judge P where
 main:=main
 ok Q g s:=∃r,Jr P main (JQ Q) r g s
 stop h:=⟨.leaf,_,.refl _,h⟩
 step {Q g s} h:=by
  obtain⟨U,h,hu⟩:=h;have ag:∀w,∃r:Rk,Fits s w->∃g' s' w' es,stepG P main g w= .go g' w' es/\Jr P main (JQ Q) r g' s'/\Fits s' w'/\Fr s w s' w'/\(∀e∈es,Ev s w w' e)/\(s= .quiet->s'= .quiet/\w'=w/\es= #[]):=by
   intro w;by_cases f:Fits s w
   ·by_cases e:s= .quiet
    ·obtain⟨g',K,r,O⟩:=hu e;exact⟨r,λ_=>⟨g',.quiet,w,#[],K w,O,e▸f,e▸ .refl _ _,by simp,λ_=>⟨rfl,rfl,rfl⟩⟩⟩
    ·obtain⟨g',s',w',es,K,⟨r,O⟩,Z,al,am⟩:=h w f;exact⟨r,λ_=>⟨g',s',w',es,K,O,Z,al,am,λx=>absurd x e⟩⟩
   ·exact⟨.leaf,λx=>absurd x f⟩
  exact⟨.node λw=>Classical.choose (ag w),.inr ⟨U,λw f=>Classical.choose_spec (ag w) f⟩⟩
 trans {Q R g s} h k:=by
  obtain⟨r,h⟩:=h;have aq:∀(r:Rk) {g:Goroutine} {s s₀:St},Cf s s₀->Jr P main (JQ R) r g s₀->Jr P main (JQ R) r g s:=by
   intro r g s s₀ V Y;cases r with
   | leaf=>obtain⟨ac,K,O⟩:=Y;exact⟨ac,V.trans K,O⟩
   | node f=>
    rcases Y with⟨ac,K,O⟩ | ⟨U,Y⟩
    ·exact .inl ⟨ac,V.trans K,O⟩
    ·exact .inr ⟨U,λw f=>let ⟨g',s',w',es,K,O,Z,al,am,ap⟩:=Y w (V.fits f);⟨g',s',w',es,K,O,Z,V.fr al,λe he=>V.ev (am e he),λe=>ap (by subst e;exact V.quiet)⟩⟩
  induction r generalizing g s with
  | leaf=>
   obtain⟨s₀,K,O⟩:=h;obtain⟨r,U⟩:=k _ _ O;exact⟨r,aq r K U⟩
  | node f ay=>
   rcases h with⟨s₀,K,O⟩ | ⟨U,h⟩
   ·obtain⟨r,U⟩:=k _ _ O;exact⟨r,aq r K U⟩
   ·have ag:∀w,∃r:Rk,Fits s w->∃g' s' w' es,stepG P main g w= .go g' w' es/\Jr P main (JQ R) r g' s'/\Fits s' w'/\Fr s w s' w'/\(∀e∈es,Ev s w w' e)/\(s= .quiet->s'= .quiet/\w'=w/\es= #[]):=by
     intro w;by_cases aw:Fits s w
     ·obtain⟨g',s',w',es,K,O,Z⟩:=h w aw;obtain⟨r,U⟩:=ay w O;exact⟨r,λ_=>⟨g',s',w',es,K,U,Z⟩⟩
     ·exact⟨.leaf,λx=>absurd x aw⟩
    exact⟨.node λw=>Classical.choose (ag w),.inr ⟨U,λw f=>Classical.choose_spec (ag w) f⟩⟩
 ghost {Q g s s₀} V h:=by
  obtain⟨r,Y⟩:=h;refine⟨r,?_⟩;cases r with
  | leaf=>obtain⟨ac,K,O⟩:=Y;exact⟨ac,V.trans K,O⟩
  | node f=>
   rcases Y with⟨ac,K,O⟩ | ⟨U,Y⟩
   ·exact .inl ⟨ac,V.trans K,O⟩
   ·exact .inr ⟨U,λw f=>let ⟨g',s',w',es,K,O,Z,al,am,ap⟩:=Y w (V.fits f);⟨g',s',w',es,K,O,Z,V.fr al,λe he=>V.ev (am e he),λe=>ap (by subst e;exact V.quiet)⟩⟩
def Lv(P:Program)(Q:Gs_):Nat->Goroutine->Prop
 | 0,g=>Q g .quiet
 | n+1,g=>Q g .quiet∨(g.status= .running/\∃g',(∀w,stepG P false g w= .go g' w #[])/\Lv P Q n g')
def HZ(P:Program):Judge P where
 main:=false
 ok Q g s:=s= .quiet->∃n,Lv P Q n g
 stop h e:=⟨0,by subst e;exact h⟩
 step {Q g s} h e:=by
  obtain⟨g',K,O⟩:=h.2.2 e;obtain⟨n,U⟩:=O rfl;exact⟨n+1,.inr ⟨h.1,g',K,U⟩⟩
 trans {Q R g s} h k e:=by
  obtain⟨n,U⟩:=h e;have:∀n g,Lv P Q n g->∃m,Lv P R m g:=by
   intro n
   induction n with
   | zero=>intro g h;exact k _ _ h rfl
   | succ n V=>
    intro g h;rcases h with h | ⟨Y,g',K,O⟩
    ·exact k _ _ h rfl
    ·obtain⟨m,hm⟩:=V g' O;exact⟨m+1,.inr ⟨Y,g',K,hm⟩⟩
  exact this n g U
 ghost {Q g s s₀} Z h e:=by subst e;exact h Z.quiet
def fr(b:Frame)(T:Av_)(ds:Ld_)(todo:Li_):Frame:={b with tmps:=T,todo:=todo,defers:=ds,mode:= .run}
def El(b:Frame)(T:Av_)(ds:Ld_)(todo:Li_):Frame:={b with tmps:=T,todo:=todo,defers:=ds,mode:= .returning}
def BA(T:Av_):Operand->Value
 | .tmp t=>T.getD t undef
 | .const v=>v
 | .global g=> .pointer (some ⟨g,0,none⟩)
 | .func f=> .func (.func f) #[] #[]
abbrev Env:=List (Nat×Value)
def look:Env->Nat->Option Value
 | [],_=>none
 | (t,v)::L,u=>if t=u then some v else look L u
def ev(L:Env):Operand->Option Value
 | .tmp t=>look L t
 | .const v=>some v
 | .global g=>some (.pointer (some ⟨g,0,none⟩))
 | .func f=>some (.func (.func f) #[] #[])
structure Has (n:Nat) (L:Env) (T:Av_):Prop where
 size:T.size=n
 at_:∀t v,look L t=some v->T.getD t undef=v
theorem Has.ev{n:Nat}{L:Env}{T:Av_}(h:Has n L T){x:Operand}{v:Value}(e:ev L x=some v):BA T x=v:=by
 cases x with
 | tmp t=>exact h.at_ t v e
 | const u=>cases e;rfl
 | global g=>cases e;rfl
 | func f=>cases e;rfl
def CL(T:Av_):Option Tmp->Value->Av_
 | some d,v=>T.setIfInBounds d v
 | none,_=>T
def As(L:Env):Option Tmp->Value->Env
 | some d,v=>(d,v)::L
 | none,_=>L
def Bg(n:Nat):Option Tmp->Bool
 | some d=>d<n
 | none=>true
theorem Xu(T:Av_)(d:Nat)(v:Value)(h:d<T.size)(t:Nat):(T.setIfInBounds d v).getD t undef=if d=t then v else T.getD t undef:=by
 by_cases e:d=t
 ·subst e;simp [Array.getD_eq_getD_getElem?,h]
 ·simp [Array.getD_eq_getD_getElem?,e]
theorem Has.put{n:Nat}{L:Env}{T:Av_}(h:Has n L T){d:Option Tmp}(hd:Bg n d=true)(v:Value):Has n (As L d v) (CL T d v):=by
 cases d with
 | none=>exact h
 | some d=>
  have K:d<T.size:=by rw [h.size];simpa [Bg] using hd
  refine⟨by simp [CL,h.size],λt u hu=>?_⟩;simp only [CL,Xu T d v K];simp only [As,look] at hu;split at hu
  ·rename_i e;rw [if_pos e];exact Option.some.inj hu
  ·rename_i e;rw [if_neg e];exact h.at_ t u hu
def Sub:Env->Env->Prop
 | [],_=>True
 | (t,v)::L',L=>look L t=some v/\Sub L' L
theorem Sub.look{L:Env}:∀{L':Env},Sub L' L->∀t v,look L' t=some v->Pal.look L t=some v
 | [],_,t,v,e=>by simp [Pal.look] at e
 | (u,w)::L',h,t,v,e=>by
  simp only [Pal.look] at e
  split at e
  ·rename_i K;subst K;cases e;exact h.1
  ·exact Sub.look h.2 t v e
theorem Has.sub{n:Nat}{L L':Env}{T:Av_}(h:Has n L T)(s:Sub L' L):Has n L' T:=⟨h.size,λt v e=>h.at_ t v (s.look t v e)⟩
variable {P:Program}
section
variable (J:Judge P)(Q:Gs_)
def JL(b:Frame)(n:Nat)(L:Env)(ds:Ld_)(todo:Li_)(cs:Lf_)(s:St):Prop:=
 ∀T,Has n L T->J.ok Q (G (fr b T ds todo) cs) s
end
variable {J:Judge P}{Q:Gs_}{L L':Env}{ds:Ld_}{k:Li_}{cs:Lf_}{s s':St}
section
variable {b:Frame}{n:Nat}
theorem Judge.Dg{g g':Goroutine}(K:g.status= .running)(h:∀w,stepG P J.main g w= .go g' w)(k:J.ok Q g' s):J.ok Q g s:=
 J.step ⟨K,λw f=>⟨g',s,w,#[],h w,k,f,.refl _ _,by simp⟩,λe=>⟨g',h,e▸k⟩⟩
theorem EO(h:Sub L' L)(k':JL J Q b n L' ds k cs s):JL J Q b n L ds k cs s:=λT K=>k' T (K.sub h)
theorem JL.ghost(h:Cf s s')(k':JL J Q b n L ds k cs s'):JL J Q b n L ds k cs s:=λT K=>J.ghost h (k' T K)
theorem JL.skip(h:JL J Q b n L ds k cs s):JL J Q b n L ds (.code .skip::k) cs s:=λT K=>Judge.Dg V (λw=>by simp [G,stepG,stepG.exec,fr]) (h T K)
theorem JL.label{l:Nat}(h:JL J Q b n L ds k cs s):JL J Q b n L ds (.code (.label l)::k) cs s:=λT K=>Judge.Dg V (λw=>by simp [G,stepG,stepG.exec,fr]) (h T K)
theorem Lu{i:Nat}(h:JL J Q b n L ds k cs s):JL J Q b n L ds (.inBlock i::k) cs s:=λT K=>Judge.Dg V (λw=>by simp [G,stepG,stepG.exec,fr]) (h T K)
theorem U2{c:Code}(h:JL J Q b n L ds k cs s):JL J Q b n L ds (.inScope c::k) cs s:=λT K=>Judge.Dg V (λw=>by simp [G,stepG,stepG.exec,fr]) (h T K)
theorem JL.seq{x y:Code}(h:JL J Q b n L ds (.code x:: .code y::k) cs s):JL J Q b n L ds (.code (.seq x y)::k) cs s:=λT K=>Judge.Dg V (λw=>by simp [G,stepG,stepG.exec,fr]) (h T K)
theorem JL.block{i:Nat}{c:Code}(h:JL J Q b n L ds (.code c:: .inBlock i::k) cs s):JL J Q b n L ds (.code (.block i c)::k) cs s:=λT K=>Judge.Dg V (λw=>by simp [G,stepG,stepG.exec,fr]) (h T K)
theorem JL.scope{c:Code}(h:JL J Q b n L ds (.code c:: .inScope c::k) cs s):JL J Q b n L ds (.code (.scope c)::k) cs s:=λT K=>Judge.Dg V (λw=>by simp [G,stepG,stepG.exec,fr]) (h T K)
theorem HX{c:Code}(h:JL J Q b n L ds (.code c:: .inLoop c::k) cs s):JL J Q b n L ds (.code (.loop c)::k) cs s:=λT K=>Judge.Dg V (λw=>by simp [G,stepG,stepG.exec,fr]) (h T K)
theorem JL.again{c:Code}(h:JL J Q b n L ds (.code c:: .inLoop c::k) cs s):JL J Q b n L ds (.inLoop c::k) cs s:=λT K=>Judge.Dg V (λw=>by simp [G,stepG,stepG.exec,fr]) (h T K)
theorem JL.exit{i:Nat}{k':Li_}(K:exitTo i k=some k')(h:JL J Q b n L ds k' cs s):JL J Q b n L ds (.code (.exit i)::k) cs s:=λT O=>Judge.Dg V (λw=>by simp [G,stepG,stepG.exec,fr,K]) (h T O)
theorem R6(T:Av_)(todo:Li_)(x:Operand):(fr b T ds todo).eval x=BA T x:=by cases x <;> rfl
theorem Rt(T:Av_)(todo:Li_):(fr b T ds todo).eval=BA T:=funext (R6 T todo)
theorem JL.cond{c:Operand}{x y:Code}{t:Bool}(U:ev L c=some (.bool t))(h:JL J Q b n L ds (.code (if t then x else y)::k) cs s):JL J Q b n L ds (.code (.cond c x y)::k) cs s:=λT O=>
 Judge.Dg V (λw=>by
  have K:=R6 (b:=b) (ds:=ds) T (.code (.cond c x y)::k) c
  rw [O.ev U] at K
  simp only [fr] at K
  simp [G,stepG,stepG.exec,fr,K]) (h T O)
theorem V7{c:Operand}{x y:Code}(K:ev L c=some (.bool true))(h:JL J Q b n L ds (.code x::k) cs s):JL J Q b n L ds (.code (.cond c x y)::k) cs s:=JL.cond K h
theorem Wo{c:Operand}{x y:Code}(K:ev L c=some (.bool false))(h:JL J Q b n L ds (.code y::k) cs s):JL J Q b n L ds (.code (.cond c x y)::k) cs s:=JL.cond K h
theorem Oz{c:Operand}{x y:Code}{t:Bool}(K:ev L c=some (.bool t))(O:t=true->JL J Q b n L ds (.code x::k) cs s)(U:t=false->JL J Q b n L ds (.code y::k) cs s):JL J Q b n L ds (.code (.cond c x y)::k) cs s:=by
 cases t
 ·exact JL.cond K (U V)
 ·exact JL.cond K (O V)
theorem FN{c:Operand}{x y:Code}{p:Prop} [Decidable p] (K:ev L c=some (.bool (decide p)))(O:p->JL J Q b n L ds (.code x::k) cs s)(U:¬p->JL J Q b n L ds (.code y::k) cs s):JL J Q b n L ds (.code (.cond c x y)::k) cs s:=
 Oz K (λh=>O (of_decide_eq_true h)) (λh=>U (of_decide_eq_false h))
theorem JL.loop{α:Type}{c:Code}(I:α->Prop)(O:α->Nat)(U:α->Env)(V:α->St)(Y:α)(Z:I Y)(ac:L=U Y)(ag:s=V Y)
  (round:∀a,I a->(∀K,I K->O K<O a->JL J Q b n (U K) ds (.inLoop c::k) cs (V K))->JL J Q b n (U a) ds (.code c:: .inLoop c::k) cs (V a)):
  JL J Q b n L ds (.code (.loop c)::k) cs s:=by
 refine HX ?_;subst ac ag;have key:∀m a,O a=m->I a->JL J Q b n (U a) ds (.code c:: .inLoop c::k) cs (V a):=by
  intro m
  induction m using Nat.strongRecOn with
  | _ m al=>intro a hm am;exact round a am λK ap aq=>JL.again (al (O K) (hm▸aq) K rfl ap)
 exact key _ Y rfl Z
theorem JL.region{id:Nat}{ops:Ao_}(h:JL J Q b n L ds (.inRegion ops (List.range ops.size)::k) cs s):JL J Q b n L ds (.code (.region id ops false)::k) cs s:=λT K=>Judge.Dg V (λw=>by simp [G,stepG,stepG.exec,fr]) (h T K)
theorem JL.done{ops:Ao_}(h:JL J Q b n L ds k cs s):JL J Q b n L ds (.inRegion ops []::k) cs s:=λT K=>Judge.Dg V (λw=>by simp [G,stepG,stepG.exec,fr]) (h T K)
theorem SV{id:Nat}{ops:Ao_}(K:s.q=false)(hm:P.follows .mixedOrders=true)(h:∀t,JL J Q b n L ds (.inRegion ops (Region.linearise .any ops t)::k) cs s):JL J Q b n L ds (.code (.region id ops true)::k) cs s:=λT O=>by
 refine J.step ⟨rfl,λw f=>⟨_,s,{w with drawn:=w.drawn+1},#[],?_,h (w.tape w.drawn (.order b.fn id)) T O,⟨f.e,f.h,f.d⟩,⟨Nat.le_refl _,λ_ _ _=>rfl,λ_ h=> .inl h,λ_ _ h=>h,λ_ h=> .inl h,rfl,rfl,rfl⟩,by simp⟩,λe=>by subst e;cases K⟩
 simp [G,stepG,stepG.exec,fr,choose,Sem.run,Question.forced,Question.cut,Region.schedule,hm]
theorem Gf(T:Av_)(ops:Ao_)(i:Nat)(rest:List Nat)(v:Value)(o:Oper)(K:ops[i]? =some o):
  (fr b T ds (.inRegion ops (i::rest)::k)).finish v=fr b (CL T o.dst v) ds (.inRegion ops rest::k):=by
 cases hd:o.dst <;> simp [Frame.finish,fr,K,hd,CL]
theorem stepG_op{main:Bool}{T:Av_}{ops:Ao_}{i:Nat}{rest:List Nat}{o:Oper}{w:World}(K:ops[i]? =some o)(hw:Region.wanted o (yielded ops T)=true):
  stepG P main (G (fr b T ds (.inRegion ops (i::rest)::k)) cs) w=
   match b.roundOf,o.op with
   | some l,.defer c=>stepG.apply P true (fr b T ds (.inRegion ops (i::rest)::k)) cs none (do Instr.deferInRound l (← resolve (BA T) c o.type);pure .skip) w
   | _,_=>stepG.apply P true (fr b T ds (.inRegion ops (i::rest)::k)) cs none (execOp (BA T) o) w:=by
 have he:=Rt (b:=b) (ds:=ds) T (.inRegion ops (i::rest)::k);simp only [fr] at he;simp only [G,stepG,stepG.exec,fr,K,Option.map_some,Option.getD_some,hw,if_true,stepG.oper,Frame.oper?,he]
 rfl
theorem FO(T:Av_)(todo:Li_):(fr b T ds todo).fn=b.fn:=rfl
theorem H3(T:Av_)(todo:Li_):(fr b T ds todo).todo=todo:=rfl
def upon(J:Judge P)(Q:Gs_)(b:Frame)(T:Av_)(ds:Ld_)(ops:Ao_)(i:Nat)(rest:List Nat)(k:Li_)(cs:Lf_)(dst:Option Tmp):Next->St->Prop
 | .value v,s=>J.ok Q (G (fr b (CL T dst v) ds (.inRegion ops rest::k)) cs) s
 | .skip,s=>J.ok Q (G (fr b (CL T dst undef) ds (.inRegion ops rest::k)) cs) s
 | .defer d,s=>J.ok Q (G (fr b (CL T dst undef) (d::ds) (.inRegion ops rest::k)) cs) s
 | .enter f args,s=>J.ok Q (G (Frame.enter P f args .normal) (fr b T ds (.inRegion ops (i::rest)::k)::cs)) s
 | .round l f tmps assign body,s=>J.ok Q (G (Frame.round l f tmps assign body .normal) (fr b T ds (.inRegion ops (i::rest)::k)::cs)) s
 | _,_=>False
def K0(J:Judge P)(Q:Gs_)(b:Frame)(T:Av_)(ds:Ld_)(ops:Ao_)(i:Nat)(rest:List Nat)(k:Li_)(cs:Lf_):Halt->St->Prop
 | .panic v,s=>J.ok Q (G ((fr b T ds (.inRegion ops (i::rest)::k)).raise [{v,recovered:=false}]) cs) s
 | _,_=>False
theorem OY{s:St}{w w':World}{fn:FuncId}{es:Array Event}(h:∀e∈es,Ev s w w' e):∀e∈seen P fn es,Ev s w w' e:=λe he=>h e (mem_seen he)
theorem Judge.oper{T:Av_}{ops:Ao_}{i:Nat}{rest:List Nat}{o:Oper}(ag:ops[i]? =some o)(hw:Region.wanted o (yielded ops T)=true)(ay:b.kind≠ .early)
  (hd:b.roundOf=none∨∀c,o.op≠ .defer c)
  (h:lp P (execOp (BA T) o) s (upon J Q b T ds ops i rest k cs o.dst) (K0 J Q b T ds ops i rest k cs)):
  J.ok Q (G (fr b T ds (.inRegion ops (i::rest)::k)) cs) s:=by
 have U:((fr b T ds (.inRegion ops (i::rest)::k)).kind==CallKind.early)=false:=by simpa [fr] using ay
 have aq:∀w,stepG P J.main (G (fr b T ds (.inRegion ops (i::rest)::k)) cs) w=stepG.apply P true (fr b T ds (.inRegion ops (i::rest)::k)) cs none (execOp (BA T) o) w:=by
  intro w;rw [stepG_op ag hw];split
  ·rename_i l c aw e2;rcases hd with hd | hd
   ·rw [hd] at aw;cases aw
   ·exact absurd e2 (hd c)
  ·rfl
 refine J.step ⟨rfl,λw f=>?_,λe=>?_⟩
 rotate_left
 ·subst e;simp only [aq];have al:=λv=>Gf (b:=b) (ds:=ds) (k:=k) T ops i rest v o ag;obtain⟨es,he,V,h⟩:=RA _ h;have ac:seen P b.fn es= #[]:=Qn V;rcases h with⟨am,K,O⟩ | ⟨x,K,O⟩
  ·cases am with
   | value v=>exact⟨_,λw=>by simp [stepG.apply,O,U,GStep.after,G,al,FO,he,ac],K⟩
   | skip=>exact⟨_,λw=>by simp [stepG.apply,O,U,GStep.after,G,al,FO,he,ac],K⟩
   | enter g args=>exact⟨_,λw=>by simp [stepG.apply,O,U,GStep.after,G,FO,H3,he,ac],K⟩
   | round l g tm as az=>exact⟨_,λw=>by simp [stepG.apply,O,U,GStep.after,G,FO,H3,he,ac],K⟩
   | defer d=>
    have ap:=Gf (b:=b) (ds:=d::ds) (k:=k) T ops i rest undef o ag;exact⟨_,λw=>by rw [← ap];simp [stepG.apply,O,U,GStep.after,G,FO,H3,he,ac];rfl,K⟩
   | _=>exact K.elim
  ·cases x with
   | panic v=>exact⟨_,λw=>by simp [stepG.apply,O,U,GStep.after,G,FO,H3,he,ac],K⟩
   | _=>exact K.elim
 obtain⟨s',Y,Z,a0,K⟩:=MT _ h f;rw [aq];have V:=OY (P:=P) (fn:=b.fn) a0;have al:=λv=>Gf (b:=b) (ds:=ds) (k:=k) T ops i rest v o ag;cases O:(execOp (BA T) o).run P w with
 | ok am w'=>
  rw [O] at Y Z K V;simp only [Kp] at Y Z V;cases am with
  | value v=>exact⟨_,s',w',seen P b.fn ((execOp (BA T) o).events P w #[])++ #[],by simp [stepG.apply,O,U,GStep.after,G,al,FO],K,Y,Z,by simpa using V⟩
  | skip=>exact⟨_,s',w',seen P b.fn ((execOp (BA T) o).events P w #[])++ #[],by simp [stepG.apply,O,U,GStep.after,G,al,FO],K,Y,Z,by simpa using V⟩
  | enter g args=>exact⟨_,s',w',seen P b.fn ((execOp (BA T) o).events P w #[])++ #[],by simp [stepG.apply,O,U,GStep.after,G,FO,H3],K,Y,Z,by simpa using V⟩
  | round l g tm as az=>exact⟨_,s',w',seen P b.fn ((execOp (BA T) o).events P w #[])++ #[],by simp [stepG.apply,O,U,GStep.after,G,FO,H3],K,Y,Z,by simpa using V⟩
  | defer d=>
   have ap:=Gf (b:=b) (ds:=d::ds) (k:=k) T ops i rest undef o ag;exact⟨_,s',w',seen P b.fn ((execOp (BA T) o).events P w #[])++ #[],by
    rw [← ap];simp [stepG.apply,O,U,GStep.after,G,FO,H3];rfl,K,Y,Z,by simpa using V⟩
  | _=>exact K.elim
 | halt x w'=>
  rw [O] at Y Z K V;simp only [Kp] at Y Z V;cases x with
  | panic v=>exact⟨_,s',w',seen P b.fn ((execOp (BA T) o).events P w #[])++ #[],by simp [stepG.apply,O,U,GStep.after,G,FO,H3],K,Y,Z,by simpa using V⟩
  | _=>exact K.elim
theorem Judge.unwanted{T:Av_}{ops:Ao_}{i:Nat}{rest:List Nat}{o:Oper}(K:ops[i]? =some o)(hw:Region.wanted o (yielded ops T)=false)
  (h:J.ok Q (G (fr b (CL T o.dst undef) ds (.inRegion ops rest::k)) cs) s):J.ok Q (G (fr b T ds (.inRegion ops (i::rest)::k)) cs) s:=by
 refine Judge.Dg V (λw=>?_) h;have O:=Gf (b:=b) (ds:=ds) (k:=k) T ops i rest undef o K;rw [← O];simp [G,stepG,stepG.exec,fr,K,hw]
end
def Yl(P:Program)(o:Oper)(ρ:Operand->Value)(s:St)(v:Value):Prop:=lp P (execOp ρ o) s (λK s'=>K= .value v/\s'=s) (λ_ _=>False)
def EP(L:Env)(ρ:Operand->Value):Prop:=∀x v,ev L x=some v->ρ x=v
def AR(L:Env)(ops:Ao_)(o:Oper):Option Bool:=
 match o.guard with
 | none=>some true
 | some (j,K)=>match(ops[j]?).bind (·.dst) with
  | some d=>match look L d with
   | some (.bool b)=>some (b==K)
   | some (.tuple _)=>some false
   | _=>none
  | none=>none
section
variable {b:Frame}{n:Nat}
theorem Has.F2{T:Av_}(h:Has n L T):EP L (BA T):=λ_ _ e=>h.ev e
theorem getD_some{T:Av_}{d:Nat}{c:Bool}(h:T.getD d undef= .bool c):T[d]? =some (.bool c):=by
 rw [Array.getD_eq_getD_getElem?] at h;cases K:T[d]? with
 | none=>rw [K] at h;simp [undef] at h
 | some v=>rw [K] at h;simp at h;rw [h]
theorem B6{T:Av_}{ops:Ao_}{o:Oper}{c:Bool}(h:Has n L T)(hw:AR L ops o=some c):Region.wanted o (yielded ops T)=c:=by
 unfold AR at hw;unfold Region.wanted;cases K:o.guard with
 | none=>rw [K] at hw;simpa using hw
 | some p=>
  obtain⟨j,V⟩:=p;rw [K] at hw;simp only at hw ⊢;cases hd:(ops[j]?).bind (·.dst) with
  | none=>rw [hd] at hw;simp at hw
  | some d=>
   rw [hd] at hw;simp only at hw;cases O:look L d with
   | none=>rw [O] at hw;simp at hw
   | some v=>
    rw [O] at hw;cases v with
    | bool x=>
     simp only [Option.some.injEq] at hw;have:=getD_some (h.at_ d _ O);simp only [yielded,hd,Option.bind_some,this];simp [← hw]
    | tuple c=>
     simp only [Option.some.injEq] at hw;have K:=h.at_ d _ O;simp only [yielded,hd,Option.bind_some];cases U:T[d]? with
     | none=>simp [← hw]
     | some u=>
      have:u= .tuple c:=by rw [Array.getD_eq_getD_getElem?,U] at K;exact K
      subst this;simp [← hw]
    | _=>simp at hw
def DW:Op->Bool | .defer _=>true | _=>false
def BJ(b:Frame)(n:Nat)(o:Oper):Bool:=(b.kind != .early)&&(Bg n o.dst&& !DW o.op)
theorem Yl.out{P:Program}{o:Oper}{ρ:Operand->Value}{s:St}{v:Value}(h:Yl P o ρ s v):Pal.lp P (execOp ρ o) s (λK s'=>K= .value v/\s'=s) (λ_ _=>False):=by unfold Yl at h;exact h
theorem A4{ops:Ao_}{i:Nat}{rest:List Nat}{o:Oper}{v:Value}(U:ops[i]? =some o)(hw:AR L ops o=some true)(K:BJ b n o=true)
  (h:∀ρ,EP L ρ->Yl P o ρ s v) (V:JL J Q b n (As L o.dst v) ds (.inRegion ops rest::k) cs s):
  JL J Q b n L ds (.inRegion ops (i::rest)::k) cs s:=λT O=>by
 simp only [BJ,Bool.and_eq_true] at K
 obtain⟨K,Y,hd⟩:=K
 refine Judge.oper U (B6 O hw) (by simpa using K) (.inr λc Z=>by rw [Z] at hd;simp [DW] at hd) (DO _ (h _ O.F2).out ?_ ?_)
 ·rintro ag s' ⟨rfl,rfl⟩
  exact V _ (O.put Y v)
 ·intro _ _ ac;exact ac.elim
theorem Ih{ops:Ao_}{i:Nat}{rest:List Nat}{o:Oper}(O:ops[i]? =some o)(hw:AR L ops o=some false)(U:Bg n o.dst=true)
  (V:JL J Q b n (As L o.dst undef) ds (.inRegion ops rest::k) cs s):
  JL J Q b n L ds (.inRegion ops (i::rest)::k) cs s:=λ_ K=>
 Judge.unwanted O (B6 K hw) (V _ (K.put U undef))
theorem JL.op{ops:Ao_}{i:Nat}{rest:List Nat}{o:Oper}(Z:ops[i]? =some o)(hw:AR L ops o=some true)(K:BJ b n o=true)
  (h:∀ρ,EP L ρ->lp P (execOp ρ o) s (λU s'=>match U with
   | .value v=>JL J Q b n (As L o.dst v) ds (.inRegion ops rest::k) cs s'
   | .skip=>JL J Q b n (As L o.dst undef) ds (.inRegion ops rest::k) cs s'
   | _=>False) (λ_ _=>False)):
  JL J Q b n L ds (.inRegion ops (i::rest)::k) cs s:=λT O=>by
 simp only [BJ,Bool.and_eq_true] at K
 obtain⟨K,Y,hd⟩:=K
 refine Judge.oper Z (B6 O hw) (by simpa using K) (.inr λc ac=>by rw [ac] at hd;simp [DW] at hd) (DO _ (h _ O.F2) ?_ ?_)
 ·intro U s' V
  cases U with
  | value v=>exact V _ (O.put Y v)
  | skip=>exact V _ (O.put Y undef)
  | _=>exact V.elim
 ·intro _ _ ag;exact ag.elim
end
variable {ρ:Operand->Value}{y z:Operand}{d:Option Tmp}{t u ty:TypeId}{p:String}{af:Ae_}{g:On_}{kd kd':IntKind}{m':Int}
section
variable {x:Operand}{v:Value}{m:Int}
theorem Yl.move(K:ρ x=v):Yl P ⟨d,.move x,ty,p,af,g⟩ ρ s v:=by simp [Yl,execOp,lp,pure,K]
theorem Yl.assign(K:ρ x=v):Yl P ⟨d,.assign x,ty,p,af,g⟩ ρ s v:=by simp [Yl,execOp,lp,pure,K]
theorem LB(K:ρ z= .bool true)(O:ρ x=v):Yl P ⟨d,.pick z x y,ty,p,af,g⟩ ρ s v:=by simp [Yl,execOp,lp,pure,bind,Sem.bind,asBool,K,O]
theorem VS(K:ρ z= .bool false)(O:ρ y=v):Yl P ⟨d,.pick z x y,ty,p,af,g⟩ ρ s v:=by simp [Yl,execOp,lp,pure,bind,Sem.bind,asBool,K,O]
theorem Yl.lss(K:ρ x= .int kd m)(O:ρ y= .int kd m'):Yl P ⟨d,.binOp .lss t x y u,ty,p,af,g⟩ ρ s (.bool (decide (m<m'))):=by
 simp [Yl,execOp,lp,pure,bind,Sem.bind,K,O,eqGuard,Go.binOp,Op.intCmp]
theorem Yl.leq(K:ρ x= .int kd m)(O:ρ y= .int kd m'):Yl P ⟨d,.binOp .leq t x y u,ty,p,af,g⟩ ρ s (.bool (decide (m<=m'))):=by
 simp [Yl,execOp,lp,pure,bind,Sem.bind,K,O,eqGuard,Go.binOp,Op.intCmp]
theorem Yl.gtr(K:ρ x= .int kd m)(O:ρ y= .int kd m'):Yl P ⟨d,.binOp .gtr t x y u,ty,p,af,g⟩ ρ s (.bool (decide (m'<m))):=by
 simp [Yl,execOp,lp,pure,bind,Sem.bind,K,O,eqGuard,Go.binOp,Op.intCmp]
theorem Yl.geq(K:ρ x= .int kd m)(O:ρ y= .int kd m'):Yl P ⟨d,.binOp .geq t x y u,ty,p,af,g⟩ ρ s (.bool (decide (m'<=m))):=by
 simp [Yl,execOp,lp,pure,bind,Sem.bind,K,O,eqGuard,Go.binOp,Op.intCmp]
theorem Yl.eql(K:ρ x= .int kd m)(O:ρ y= .int kd m'):Yl P ⟨d,.binOp .eql t x y u,ty,p,af,g⟩ ρ s (.bool (decide (m=m'))):=by
 simp [Yl,execOp,lp,pure,bind,Sem.bind,K,O,eqGuard,Go.binOp,Op.intCmp];rfl
theorem Yl.neq(K:ρ x= .int kd m)(O:ρ y= .int kd m'):Yl P ⟨d,.binOp .neq t x y u,ty,p,af,g⟩ ρ s (.bool (!decide (m=m'))):=by
 simp [Yl,execOp,lp,pure,bind,Sem.bind,K,O,eqGuard,Go.binOp,Op.intCmp];rfl
theorem Yl.add(K:ρ x= .int kd m)(O:ρ y= .int kd m'):Yl P ⟨d,.binOp .add t x y u,ty,p,af,g⟩ ρ s (.int kd (kd.wrap (m+m'))):=by
 simp [Yl,execOp,lp,pure,bind,Sem.bind,K,O,eqGuard,Go.binOp,Op.intArith]
theorem Yl.sub(K:ρ x= .int kd m)(O:ρ y= .int kd m'):Yl P ⟨d,.binOp .sub t x y u,ty,p,af,g⟩ ρ s (.int kd (kd.wrap (m - m'))):=by
 simp [Yl,execOp,lp,pure,bind,Sem.bind,K,O,eqGuard,Go.binOp,Op.intArith]
theorem Yl.mul(K:ρ x= .int kd m)(O:ρ y= .int kd m'):Yl P ⟨d,.binOp .mul t x y u,ty,p,af,g⟩ ρ s (.int kd (kd.wrap (m*m'))):=by
 simp [Yl,execOp,lp,pure,bind,Sem.bind,K,O,eqGuard,Go.binOp,Op.intArith]
theorem J9{a:Int}(h: -9223372036854775808<=a/\a<=9223372036854775807):IntKind.i64.wrap a=a:=by
 simp only [IntKind.wrap,IntKind.bits,IntKind.signed];simp;split <;> omega
theorem XL(K:ρ x= .int .i64 m)(O:ρ y= .int .i64 m')(hb: -9223372036854775808<=m+m'/\m+m'<=9223372036854775807):Yl P ⟨d,.binOp .add t x y u,ty,p,af,g⟩ ρ s (.int .i64 (m+m')):=by
 have:=Yl.add (P:=P) (s:=s) (d:=d) (t:=t) (u:=u) (ty:=ty) (p:=p) (af:=af) (g:=g) K O;rwa [J9 hb] at this
theorem X5(K:ρ x= .int .i64 m)(O:ρ y= .int .i64 m')(hb: -9223372036854775808<=m - m'/\m - m'<=9223372036854775807):Yl P ⟨d,.binOp .sub t x y u,ty,p,af,g⟩ ρ s (.int .i64 (m - m')):=by
 have:=Yl.sub (P:=P) (s:=s) (d:=d) (t:=t) (u:=u) (ty:=ty) (p:=p) (af:=af) (g:=g) K O;rwa [J9 hb] at this
theorem XH(K:ρ x= .int .i64 m)(O:ρ y= .int .i64 m')(hb: -9223372036854775808<=m*m'/\m*m'<=9223372036854775807):Yl P ⟨d,.binOp .mul t x y u,ty,p,af,g⟩ ρ s (.int .i64 (m*m')):=by
 have:=Yl.mul (P:=P) (s:=s) (d:=d) (t:=t) (u:=u) (ty:=ty) (p:=p) (af:=af) (g:=g) K O;rwa [J9 hb] at this
theorem Yl.quo(K:ρ x= .int kd m)(O:ρ y= .int kd m')(U:m'≠0):Yl P ⟨d,.binOp .quo t x y u,ty,p,af,g⟩ ρ s (.int kd (kd.wrap (m.tdiv m'))):=by
 simp [Yl,execOp,lp,pure,bind,Sem.bind,K,O,eqGuard,Go.binOp,Op.intDiv,U]
theorem Yl.and(K:ρ x= .int kd m)(O:ρ y= .int kd m'):Yl P ⟨d,.binOp .and t x y u,ty,p,af,g⟩ ρ s (.int kd (kd.wrap (BitVec.ofInt kd.bits m&&& BitVec.ofInt kd.bits m').toNat)):=by
 simp [Yl,execOp,lp,pure,bind,Sem.bind,K,O,eqGuard,Go.binOp,Op.intBits]
theorem Yl.or(K:ρ x= .int kd m)(O:ρ y= .int kd m'):Yl P ⟨d,.binOp .or t x y u,ty,p,af,g⟩ ρ s (.int kd (kd.wrap (BitVec.ofInt kd.bits m ||| BitVec.ofInt kd.bits m').toNat)):=by
 simp [Yl,execOp,lp,pure,bind,Sem.bind,K,O,eqGuard,Go.binOp,Op.intBits]
theorem Yl.shl(K:ρ x= .int kd m)(O:ρ y= .int kd' m')(U:0<=m'):Yl P ⟨d,.binOp .shl t x y u,ty,p,af,g⟩ ρ s (.int kd (kd.wrap (m*2 ^ (min m'.toNat kd.bits)))):=by
 have:¬m'<0:=by omega
 simp [Yl,execOp,lp,pure,bind,Sem.bind,K,O,eqGuard,Go.binOp,Op.shift,this]
theorem Yl.shr(K:ρ x= .int kd m)(O:ρ y= .int kd' m')(U:0<=m'):Yl P ⟨d,.binOp .shr t x y u,ty,p,af,g⟩ ρ s (.int kd (m.fdiv (2 ^ (min m'.toNat kd.bits)))):=by
 have:¬m'<0:=by omega
 simp [Yl,execOp,lp,pure,bind,Sem.bind,K,O,eqGuard,Go.binOp,Op.shift,this]
theorem Yl.not{c:Bool}(K:ρ x= .bool c):Yl P ⟨d,.unOp .not t x,ty,p,af,g⟩ ρ s (.bool (!c)):=by
 simp [Yl,execOp,lp,pure,bind,Sem.bind,K,Op.unary]
theorem YH(K:ρ x= .int .i64 m)(hb: -9223372036854775808<= -m/\ -m<=9223372036854775807):Yl P ⟨d,.unOp .neg t x,ty,p,af,g⟩ ρ s (.int .i64 (-m)):=by
 simp [Yl,execOp,lp,pure,bind,Sem.bind,K,Op.unary,Op.intArith,J9 hb]
theorem Fj(K:P.underlying t=some (.int kd'))(hu:P.underlying u=some (.int kd))(O:ρ x= .int kd' m):Yl P ⟨d,.convert t u x,ty,p,af,g⟩ ρ s (.int kd (kd.wrap m)):=by
 simp [Yl,execOp,lp,pure,bind,Sem.bind,O,Go.convert,underlying,program,K,hu,Conv.intToInt]
theorem Yl.extract{vs:Av_}{i:Nat}(K:ρ x= .tuple vs)(hi:vs[i]? =some v):Yl P ⟨d,.extract x i,ty,p,af,g⟩ ρ s v:=by
 simp [Yl,execOp,lp,pure,bind,Sem.bind,K,Instr.extract,hi]
theorem Yl.nilCheck{a:Addr}(K:ρ x= .pointer (some a)):Yl P ⟨d,.nilCheck x,ty,p,af,g⟩ ρ s (.pointer (some a)):=by
 simp [Yl,execOp,lp,pure,K]
theorem Yl.len{a:Option Addr}{e:TypeId}{l c:Nat}{ats:Array TypeId}(K:ats[0]? =some t)(O:P.underlying t=some (.slice e))(U:ρ x= .slice a l c):
  Yl P ⟨d,.call ⟨.builtin .len,#[x],ats⟩,ty,p,af,g⟩ ρ s (.int .i64 l):=by
 simp [Yl,execOp,lp,pure,bind,Sem.bind,U,resolve,invoke,builtin,Builtin.len_,K,underlying,program,O,goInt]
theorem IT{dsc:TypeDesc}(K:P.underlying t=some dsc)(O:∀ms,dsc≠ .interface ms)(U:ρ x=v):Yl P ⟨d,.makeInterface t x,ty,p,af,g⟩ ρ s (.iface t v):=by
 have:lp P (Instr.makeInterface t v) s (λr s'=>r= .iface t v/\s'=s) (λ_ _=>False):=by
  unfold Instr.makeInterface;simp only [lp,bind,Sem.bind,underlying,program,K];cases dsc <;> first | exact⟨rfl,rfl⟩ | exact absurd rfl (O _)
 simp only [Yl,execOp,U];exact Ar _ _ (DO _ this (λr s' ⟨V,Y⟩=>⟨by rw [V],Y⟩) (λ_ _ h=>h))
theorem Jl{fn:Fn}{a c:Array Operand}{va K:Av_}(O:a.map ρ=va)(U:c.map ρ=K):Yl P ⟨d,.makeFunc fn a c,ty,p,af,g⟩ ρ s (.func fn va K):=by
 simp [Yl,execOp,lp,pure,bind,Sem.bind,Instr.makeFunc,O,U]
end
attribute [irreducible] Yl
def Le(E E':LH):Prop:=∀b o,E b=some o->E' b=some o
theorem Le.refl(E:LH):Le E E:=λ_ _ h=>h
theorem Le.trans{E E' K:LH}(h:Le E E')(k:Le E' K):Le E K:=λb o x=>k b o (h b o x)
theorem AA{E:LH}:Le E E:=Le.refl E
theorem Le.Ad{a b c:LH}(h:Le a b)(k:Le b c):Le a c:=h.trans k
def Bl:List (Nat×Obj)->LH->LH
 | [],H=>H
 | (b,o)::B,H=>λx=>if x=b then some o else Bl B H x
def mk(E H:LH)(B:List (Nat×Obj)):St:=⟨E,Bl B H,false⟩
def Nd(E H:LH):List (Nat×Obj)->Prop
 | []=>True
 | (b,_)::B=>E b=none/\H b=none/\(∀p∈B,p.1≠b)/\Nd E H B
theorem QL{H:LH}{b:Nat}:∀{B:List (Nat×Obj)},H b=none->(∀p∈B,p.1≠b)->Bl B H b=none
 | [],h,_=>h
 | (c,o)::B,h,hb=>by
  have K:b≠c:=λe=>hb (c,o) (by simp) e.symm
  simp only [Bl,if_neg K]
  exact QL h λp O=>hb p (List.mem_cons_of_mem _ O)
theorem HU{H:LH}{b:Nat}:∀{B:List (Nat×Obj)},Bl B H b=none->H b=none/\∀p∈B,p.1≠b
 | [],h=>⟨h,by simp⟩
 | (c,o)::B,h=>by
  simp only [Bl] at h
  split at h
  ·cases h
  ·rename_i O;obtain⟨U,V⟩:=HU h;refine⟨U,λp K=>?_⟩;rcases List.mem_cons.1 K with rfl | K
   ·exact λe=>O e.symm
   ·exact V p K
theorem Qr{H:LH}{x:Nat}{o:Obj}{r:Nat}:∀{B:List (Nat×Obj)},(∀p∈B,p.1≠r)->Bl (B++ [(r,o)]) H x=if x=r then some o else Bl B H x
 | [],_=>rfl
 | (c,u)::B,h=>by
  simp only [List.cons_append,Bl]
  by_cases e:x=c
  ·subst e
   have:x≠r:=λe=>h (x,u) (by simp) e;simp [this]
  ·simp only [if_neg e];exact Qr λp K=>h p (List.mem_cons_of_mem _ K)
theorem Nd.append{E H:LH}{r:Nat}{o:Obj}(O:E r=none)(U:H r=none):∀{B:List (Nat×Obj)},(∀p∈B,p.1≠r)->Nd E H B->Nd E H (B++ [(r,o)])
 | [],_,_=>⟨O,U,by simp,trivial⟩
 | (c,u)::B,h,V=>by
  obtain⟨Y,Z,ac,ag⟩:=V
  refine⟨Y,Z,λp K=>?_,Nd.append O U (λp K=>h p (List.mem_cons_of_mem _ K)) ag⟩
  rcases List.mem_append.1 K with K | K
  ·exact ac p K
  ·simp at K;subst K;exact λe=>h (c,u) (by simp) e.symm
theorem IZ{E H:LH}{b:Nat}{o:Obj}:∀{B:List (Nat×Obj)} {i:Nat},Nd E H B->B[i]? =some (b,o)->Bl B H b=some o
 | [],_,_,h=>by simp at h
 | (c,u)::B,0,_,h=>by simp at h;obtain⟨rfl,rfl⟩:=h;simp [Bl]
 | (c,u)::B,i+1,K,h=>by
  simp at h
  have O:b≠c:=K.2.2.1 (b,o) (List.mem_of_getElem? h)
  simp only [Bl,if_neg O]
  exact IZ K.2.2.2 h
theorem QR{E H:LH}{b:Nat}{o o':Obj}:∀{B:List (Nat×Obj)} {i:Nat},Nd E H B->B[i]? =some (b,o)->Bl (B.set i (b,o')) H=λx=>if x=b then some o' else Bl B H x
 | [],_,_,h=>by simp at h
 | (c,u)::B,0,_,h=>by
  simp at h;obtain⟨rfl,rfl⟩:=h
  funext x
  simp only [List.set_cons_zero,Bl]
  split <;> rfl
 | (c,u)::B,i+1,K,h=>by
  simp at h
  have O:b≠c:=K.2.2.1 (b,o) (List.mem_of_getElem? h)
  funext x
  simp only [List.set_cons_succ,Bl]
  rw [QR K.2.2.2 h]
  by_cases e:x=c
  ·subst e;simp [Ne.symm O]
  ·simp [e]
theorem Nd.set{E H:LH}{b:Nat}{o o':Obj}:∀{B:List (Nat×Obj)} {i:Nat},Nd E H B->B[i]? =some (b,o)->Nd E H (B.set i (b,o'))
 | [],_,_,h=>by simp at h
 | (c,u)::B,0,K,h=>by simp at h;obtain⟨rfl,rfl⟩:=h;exact K
 | (c,u)::B,i+1,K,h=>by
  simp at h
  refine⟨K.1,K.2.1,λp O=>?_,K.2.2.2.set h⟩
  have hm:=List.mem_or_eq_of_mem_set O
  rcases hm with hm | rfl
  ·exact K.2.2.1 p hm
  ·exact K.2.2.1 (b,o) (List.mem_of_getElem? h)
theorem Nd.R4{E H:LH}{b:Nat}{o:Obj}:∀{B:List (Nat×Obj)} {i:Nat},Nd E H B->B[i]? =some (b,o)->E b=none
 | [],_,_,h=>by simp at h
 | (c,u)::B,0,K,h=>by simp at h;obtain⟨rfl,rfl⟩:=h;exact K.1
 | (c,u)::B,i+1,K,h=>by simp at h;exact Nd.R4 K.2.2.2 h
theorem Oi{E H:LH}{B:List (Nat×Obj)}{i b:Nat}{o:Obj}(K:Nd E H B)(h:B[i]? =some (b,o)):(mk E H B).get b=some o:=by
 unfold St.get mk;simp only [K.R4 h,IZ K h]
theorem Vd{E H:LH}{B:List (Nat×Obj)}{b:Nat}{o:Obj}(h:E b=some o):(mk E H B).get b=some o:=by
 unfold St.get mk;simp only [h]
theorem RX{E H:LH}{B:List (Nat×Obj)}{i b off:Nat}{c:Av_}{e:TypeId}{f:Nat×Nat}{v:Value}(K:Nd E H B)(h:B[i]? =some (b,.cells c e f))(O:c[off]? =some v):(mk E H B).cell? ⟨b,off,none⟩=some v:=by
 unfold St.cell?;rw [Oi K h];exact O
theorem VW{E H:LH}{B:List (Nat×Obj)}{b off:Nat}{c:Av_}{e:TypeId}{f:Nat×Nat}{v:Value}(h:E b=some (.cells c e f))(K:c[off]? =some v):(mk E H B).cell? ⟨b,off,none⟩=some v:=by
 unfold St.cell?;rw [Vd h];exact K
variable {E H:LH}{B B':List (Nat×Obj)}
section
variable {b:Frame}{n:Nat}
theorem Jo{r:Nat}(O:(mk E H B).E r=none)(U:(mk E H B).H r=none)(o:Obj)(V:Nd E H B):Nd E H (B++ [(r,o)])/\(mk E H B).upd r o=mk E H (B++ [(r,o)]):=by
 obtain⟨Y,K⟩:=HU U;refine⟨Nd.append O Y K V,?_⟩;unfold St.upd mk;congr 1;funext x;exact(Qr K).symm
theorem Zm{i bk:Nat}{o o':Obj}(K:Nd E H B)(h:B[i]? =some (bk,o)):(mk E H B).upd bk o'=mk E H (B.set i (bk,o')):=by
 unfold St.upd mk;congr 1;exact(QR K h).symm
theorem JL.drop(B':List (Nat×Obj))(h:∀p∈B',∃i:Nat,B[i]? =some p)(U:Nd E H B)(k':JL J Q b n L ds k cs (mk E H B')):JL J Q b n L ds k cs (mk E H B):=
 JL.ghost (s':=mk E H B') ⟨λ_ _ h=>h,λx o O=>by
  show Bl B H x=some o
  have key:∀{B':List (Nat×Obj)},(∀p∈B',∃i:Nat,B[i]? =some p)->Bl B' H x=some o->Bl B H x=some o:=by
   intro B'
   induction B' with
   | nil=>
    intro _ O
    have ag:∀p∈B,p.1≠x:=by
     intro p K e
     have:∀{B:List (Nat×Obj)},Nd E H B->p∈B->H p.1=none:=by
      intro B U K
      induction B with
      | nil=>simp at K
      | cons q B V=>
       rcases List.mem_cons.1 K with rfl | K
       ·exact U.2.1
       ·exact V U.2.2.2 K
     have Z:=this U K
     rw [e] at Z
     have ac:H x=some o:=O
     rw [Z] at ac;cases ac
    have:∀{B:List (Nat×Obj)},(∀p∈B,p.1≠x)->Bl B H x=H x:=by
     intro B Y
     induction B with
     | nil=>rfl
     | cons q B V=>
      have al:x≠q.1:=λe=>Y q (by simp) e.symm
      obtain⟨c,u⟩:=q
      simp only [Bl,if_neg al]
      exact V λp K=>Y p (List.mem_cons_of_mem _ K)
    rw [this ag];exact O
   | cons q B' V=>
    intro Y O
    obtain⟨c,u⟩:=q
    simp only [Bl] at O
    split at O
    ·rename_i e;subst e;cases O
     obtain⟨i,hi⟩:=Y (x,o) (by simp)
     exact IZ U hi
    ·exact V (λp K=>Y p (List.mem_cons_of_mem _ K)) O
  exact key h O,λ_ _ h=> .inl h,rfl⟩ k'
theorem Lt{x:Nat}:∀{B:List (Nat×Obj)} {i:Nat} {bk:Nat} {o u:Obj},Nd E H B->B[i]? =some (bk,o)->Bl (B.eraseIdx i) H x=some u->x≠bk/\Bl B H x=some u
 | [],_,_,_,_,_,h,_=>by simp at h
 | (c,v)::B,0,bk,o,u,O,h,K=>by
  simp at h;obtain⟨rfl,rfl⟩:=h
  simp only [List.eraseIdx_cons_zero] at K
  have U:x≠c:=by
   intro e;subst e;rw [QL O.2.1 O.2.2.1] at K;cases K
  exact⟨U,by simp only [Bl,if_neg U];exact K⟩
 | (c,v)::B,i+1,bk,o,u,O,h,K=>by
  simp at h;simp only [List.eraseIdx_cons_succ,Bl] at K ⊢;split at K
  ·rename_i e;subst e;rw [if_pos rfl];exact⟨λe=>O.2.2.1 (bk,o) (List.mem_of_getElem? h) e.symm,K⟩
  ·rename_i e;rw [if_neg e];exact Lt O.2.2.2 h K
theorem JL.freeze(i:Nat){bk:Nat}{o:Obj}(K:Nd E H B)(h:B[i]? =some (bk,o))
  (k':∀E',Le E E'->E' bk=some o->Nd E' H (B.eraseIdx i)->JL J Q b n L ds k cs (mk E' H (B.eraseIdx i))):JL J Q b n L ds k cs (mk E H B):=by
 have am:=List.mem_of_getElem? h;have ap:E bk=none/\H bk=none:=by
  have:∀{B:List (Nat×Obj)},Nd E H B->(bk,o)∈B->E bk=none/\H bk=none:=by
   intro B K O
   induction B with
   | nil=>simp at O
   | cons q B V=>
    rcases List.mem_cons.1 O with rfl | O
    ·exact⟨K.1,K.2.1⟩
    ·exact V K.2.2.2 O
  exact this K am
 let E':LH:=λx=>if x=bk then some o else E x
 have ac:E' bk=some o:=by simp [E']
 have hle:Le E E':=λx u U=>by
  have:x≠bk:=λe=>by subst e;rw [ap.1] at U;cases U
  simp [E',this,U]
 have aq:Nd E' H (B.eraseIdx i):=by
  have:∀{B:List (Nat×Obj)} {i:Nat},Nd E H B->B[i]? =some (bk,o)->Nd E' H (B.eraseIdx i)/\∀p∈B.eraseIdx i,p.1≠bk:=by
   intro B
   induction B with
   | nil=>intro i _ h;simp at h
   | cons q B V=>
    obtain⟨c,v⟩:=q;intro i K h;have up:∀{B:List (Nat×Obj)},Nd E H B->(∀p∈B,p.1≠bk)->Nd E' H B:=by
     intro B K ag
     induction B with
     | nil=>trivial
     | cons q B aw=>exact⟨by simpa [E',ag q (by simp)] using K.1,K.2.1,K.2.2.1,aw K.2.2.2 λp O=>ag p (List.mem_cons_of_mem _ O)⟩
    cases i with
    | zero=>
     simp at h;obtain⟨rfl,rfl⟩:=h;exact⟨up K.2.2.2 K.2.2.1,K.2.2.1⟩
    | succ i=>
     simp at h;obtain⟨Y,Z⟩:=V K.2.2.2 h;have al:c≠bk:=λe=>K.2.2.1 (bk,o) (List.mem_of_getElem? h) e.symm;refine⟨⟨by simpa [E',al] using K.1,K.2.1,λp O=>K.2.2.1 p (List.mem_of_mem_eraseIdx O),Y⟩,λp O=>?_⟩;rcases List.mem_cons.1 O with rfl | O
     ·exact al
     ·exact Z p O
  exact(this K h).1
 refine JL.ghost (s':=mk E' H (B.eraseIdx i)) ⟨λx u U=>hle x u U,λx u U=>(Lt K h U).2,λx u U=>?_,rfl⟩ (k' E' hle ac aq);by_cases e:x=bk
 ·subst e;right;have:u=o:=by have:E' x=some u:=U;rw [ac] at this;exact(Option.some.inj this).symm
  subst this;refine⟨IZ K h,?_⟩;cases ay:(mk E' H (B.eraseIdx i)).H x with
  | none=>rfl
  | some y=>exact absurd rfl (Lt K h ay).1
 ·left;have Y:E' x=some u:=U;have Z:E' x=E x:=by simp [E',e]
  show E x=some u;rw [← Z];exact Y
def Fn(P:Program)(f:FuncId)(args:Av_)(s:St)(R:Value->St->Prop):Prop:=
 ∀(J:Judge P) (Q:Gs_) (c:Frame) (cs:Lf_),(∀v s',R v s'->J.ok Q (G (c.finish v) cs) s')->J.ok Q (G (Frame.enter P f args .normal) (c::cs)) s
def Du(P:Program)(f:FuncId):Bool:=match P.funcs[f]? with | some fn=> !(fn.name== "runtime.NumGoroutine")&&fn.body.isSome | none=>false
def evs(L:Env):List Operand->Option (Lv_)
 | []=>some []
 | x::xs=>match ev L x,evs L xs with | some v,some vs=>some (v::vs) | _,_=>none
theorem FY{L:Env}{ρ:Operand->Value}(h:EP L ρ):∀{xs:List Operand} {vs:Lv_},evs L xs=some vs->xs.map ρ=vs
 | [],vs,e=>by simp [evs] at e;subst e;rfl
 | x::xs,vs,e=>by
  simp only [evs] at e
  split at e
  ·rename_i v ws K O
   cases e;rw [List.map_cons,h x v K,FY h O]
  ·cases e
theorem IP{f:FuncId}{args:Av_}{s:St}{Q:Next->St->Prop}{X:Halt->St->Prop}(K:Du P f=true)(h:Q (.enter f args) s):lp P (callFunc f args) s Q X:=by
 unfold Du at K;unfold callFunc;simp only [bind,Sem.bind,program,lp];cases O:P.funcs[f]? with
 | none=>rw [O] at K;cases K
 | some fn=>
  rw [O] at K;simp only [Bool.and_eq_true,Bool.not_eq_true'] at K;have hb:fn.body.isNone=false:=by cases U:fn.body <;> simp_all
  simp only [K.1,hb,Bool.false_eq_true,if_false];exact h
def BB(P:Program)(f:FuncId)(L:Env)(n:Nat)(s:St)(v:Value):Prop:=∃fn,P.funcs[f]? =some fn/\∀T,Has n L T->lp P (results fn T) s (λu s'=>u=v/\s'=s) (λ_ _=>False)
theorem Judge.leave{T:Av_}{todo:Li_}{c:Frame}{s:St}{v:Value}{fn:Func}(V:b.kind= .normal)(Y:P.funcs[b.fn]? =some fn)(U:lp P (results fn T) s (λu s'=>u=v/\s'=s) (λ_ _=>False))
  (h:J.ok Q (G (c.finish v) cs) s):J.ok Q (G (El b T [] todo) (c::cs)) s:=by
 refine J.step ⟨rfl,λw f=>?_,λe=>?_⟩
 rotate_left
 ·subst e;obtain⟨es,he,al,U⟩:=RA _ U;have am:seen P b.fn es= #[]:=Qn al;rcases U with⟨u,⟨rfl,_⟩,O⟩ | ⟨x,K,_⟩
  ·exact⟨_,λw=>by simp [G,stepG,unwind,El,Y,O,doReturn,V,GStep.after,he,am],h⟩
  ·exact K.elim
 obtain⟨s',Z,ac,ag,K⟩:=MT _ U f;cases O:(results fn T).run P w with
 | halt x w'=>rw [O] at K;exact K.elim
 | ok u w'=>
  rw [O] at Z ac ag K;obtain⟨rfl,rfl⟩:=K;exact⟨_,s',w',seen P b.fn ((results fn T).events P w #[])++ #[],by simp [G,stepG,unwind,El,Y,O,doReturn,V,GStep.after],h,Z,ac,by simp only [Array.append_empty];exact OY ag⟩
theorem JL.ret{s:St}{c:Frame}{v:Value}(O:b.kind= .normal)(U:b.roundOf=none)(K:BB P b.fn L n s v)(h:J.ok Q (G (c.finish v) cs) s):JL J Q b n L [] (.code .ret::k) (c::cs) s:=λT V=>by
 obtain⟨fn,Y,K⟩:=K
 refine Judge.Dg (g':=G (El b T [] (.code .ret::k)) (c::cs)) rfl (λw=>by simp [G,stepG,stepG.exec,fr,El,U]) ?_
 exact Judge.leave O Y (K T V) h
theorem JL.fin{s:St}{c:Frame}{v:Value}(O:b.kind= .normal)(U:b.roundOf=none)(K:BB P b.fn L n s v)(h:J.ok Q (G (c.finish v) cs) s):JL J Q b n L [] [] (c::cs) s:=λT V=>by
 obtain⟨fn,Y,K⟩:=K
 refine Judge.Dg (g':=G (El b T [] []) (c::cs)) rfl (λw=>by simp [G,stepG,stepG.exec,fr,El,U]) ?_
 exact Judge.leave O Y (K T V) h
theorem BB.one{f:FuncId}{fn:Func}{s:St}{t:Tmp}{v:Value}(K:P.funcs[f]? =some fn)(O:fn.results= #[.tmp t])(h:look L t=some v):BB P f L n s v:=
 ⟨fn,K,λT U=>by
  have e:results fn T=Sem.pure v:=by
   have:=U.at_ t v h
   simp only [results,O,Array.mapM_eq_mapM_toList]
   show Sem.pure (T.getD t undef)=_
   rw [this]
  rw [e];exact⟨rfl,rfl⟩⟩
theorem BB.none{f:FuncId}{fn:Func}{s:St}(K:P.funcs[f]? =some fn)(O:fn.results= #[]):BB P f L n s (.tuple #[]):=
 ⟨fn,K,λT U=>by
  have e:results fn T=Sem.pure (.tuple #[]):=by
   simp only [results,O,Array.mapM_eq_mapM_toList]
   rfl
  rw [e];exact⟨rfl,rfl⟩⟩
def F1:Nat->Lv_->Env
 | _,[]=> []
 | i,v::vs=>(i,v)::F1 (i+1) vs
theorem Jj{i:Nat}{vs:Lv_}{t:Nat}{v:Value}(h:look (F1 i vs) t=some v):i<=t/\vs[t - i]? =some v:=by
 induction vs generalizing i with
 | nil=>simp [F1,look] at h
 | cons u vs K=>
  simp only [F1,look] at h;split at h
  ·rename_i e;subst e;cases h;simp
  ·rename_i U;obtain⟨V,O⟩:=K h;refine⟨by omega,?_⟩;have:t - i=(t - (i+1))+1:=by omega
   rw [this];simpa using O
end
def Bo(P:Program)(t:TypeId):Option Nat:=(P.info? t).map (·.size)
def Dr(P:Program)(t:TypeId):Option Bool:=match P.underlying t with | some (.struct _)=>some true | some (.array _ _)=>some true | some _=>some false | none=>none
def zeroOf(P:Program)(t:TypeId):Option Value:=(P.info? t).bind (·.zero)
theorem EJ{K:Nat}{Q:Nat->St->Prop}{X:Halt->St->Prop}(h:Bo P t=some K)(k:Q K s):lp P (Go.sizeOf t) s Q X:=by
 unfold Bo at h;simp only [Go.sizeOf,typeInfo,bind,Sem.bind,program,lp];cases hi:P.info? t with
 | none=>rw [hi] at h;cases h
 | some i=>rw [hi] at h;simp at h;subst h;exact k
theorem GQ{z:Value}{Q:Value->St->Prop}{X:Halt->St->Prop}(h:zeroOf P t=some z)(k:Q z s):lp P (zeroValue t) s Q X:=by
 unfold zeroOf at h;simp only [zeroValue,typeInfo,bind,Sem.bind,program,lp];cases hi:P.info? t with
 | none=>rw [hi] at h;cases h
 | some i=>
  rw [hi] at h;simp at h;show lp P (match i.zero with | some v=>pure v | none=>unsupported _) s Q X
  rw [h];exact k
theorem MV{c:Bool}{Q:Bool->St->Prop}{X:Halt->St->Prop}(h:Dr P t=some c)(k:Q c s):lp P (isAgg t) s Q X:=by
 unfold Dr at h;simp only [isAgg,underlying,bind,Sem.bind,program,lp];cases hu:P.underlying t with
 | none=>rw [hu] at h;cases h
 | some u=>
  rw [hu] at h;cases u <;> simp at h <;> subst h <;> exact k
theorem Ce{u:TypeDesc}{Q:TypeDesc->St->Prop}{X:Halt->St->Prop}(h:P.underlying t=some u)(k:Q u s):lp P (underlying t) s Q X:=by
 simp only [underlying,bind,Sem.bind,program,lp,h];exact k
theorem R2{a:Addr}{v:Value}{Q:Value->St->Prop}{X:Halt->St->Prop}(h:s.cell? a=some v)(k:Q v s):lp P (load a) s Q X:=⟨V,v,h,k⟩
theorem Qh{a:Addr}{Q:Av_->St->Prop}{X:Halt->St->Prop}:∀(vs:Lv_) (i:Nat) (acc:Av_),(∀j v,vs[j]? =some v->s.cell? (a.add (i+j))=some v)->Q (acc++vs.toArray) s->lp P (loadCellsFrom a i vs.length acc) s Q X
 | [],i,acc,_,k=>by simpa [loadCellsFrom,lp,pure] using k
 | v::vs,i,acc,h,k=>by
  simp only [List.length_cons,loadCellsFrom]
  refine Ar _ _ (R2 (h 0 v V) ?_)
  refine Qh vs (i+1) (acc.push v) (λj u K=>?_) (by simpa using k)
  have:=h (j+1) u (by simpa using K)
  rwa [show i+1+j=i+(j+1) from by omega]
theorem Qm{a:Addr}{vs:Lv_}{m:Nat}{Q:Av_->St->Prop}{X:Halt->St->Prop}(hm:m=vs.length)(h:∀j v,vs[j]? =some v->s.cell? (a.add j)=some v)(k:Q vs.toArray s):lp P (loadCells a m) s Q X:=by
 subst hm;exact Qh vs 0 #[] (λj v K=>by simpa using h j v K) (by simpa using k)
theorem Qx{a:Addr}{v:Value}{Q:Value->St->Prop}{X:Halt->St->Prop}(K:Dr P t=some false)(h:s.cell? a=some v)(k:Q v s):lp P (loadVar t a) s Q X:=by
 unfold loadVar;refine Ar _ _ (MV K ?_);exact R2 h k
theorem QA{a:Addr}{vs:Lv_}{Q:Value->St->Prop}{X:Halt->St->Prop}(K:Dr P t=some true)(O:Bo P t=some vs.length)(h:∀j v,vs[j]? =some v->s.cell? (a.add j)=some v)(k:Q (.agg vs.toArray) s):lp P (loadVar t a) s Q X:=by
 unfold loadVar;refine Ar _ _ (MV K ?_);show lp P (do let r ← loadCells a (← Go.sizeOf t);pure (Value.agg r)) s Q X
 refine Ar (x:=Go.sizeOf t) _ (EJ O ?_);refine Ar _ _ (Qm V h ?_);exact k
variable {e:TypeId}
section
variable {x:Operand}{v:Value}{m:Int}
theorem EN{o:Oper}{sm:Sem Value}(K:execOp ρ o=(do pure (Next.value (← sm))))(h:lp P sm s (λr s'=>r=v/\s'=s) (λ_ _=>False)):Yl P o ρ s v:=by
 unfold Yl;rw [K];exact Ar _ _ (DO _ h (λr s' ⟨O,U⟩=>⟨by rw [O],U⟩) (λ_ _ h=>h))
theorem Yl.load{a:Addr}(K:Dr P t=some false)(O:ρ x= .pointer (some a))(h:s.cell? a=some v):Yl P ⟨d,.load t x,ty,p,af,g⟩ ρ s v:=
 EN (sm:=Instr.loadAt t (ρ x)) V (by rw [O];exact Qx K h ⟨rfl,rfl⟩)
theorem GV{a:Addr}{vs:Lv_}(K:Dr P t=some true)(O:Bo P t=some vs.length)(U:ρ x= .pointer (some a))(h:∀j v,vs[j]? =some v->s.cell? (a.add j)=some v):Yl P ⟨d,.load t x,ty,p,af,g⟩ ρ s (.agg vs.toArray):=
 EN (sm:=Instr.loadAt t (ρ x)) V (by rw [U];exact QA K O h ⟨rfl,rfl⟩)
theorem Yl.fieldAddr{a:Addr}{O:Array Field}{i:Nat}{K:Field}{U:Nat}(V:P.underlying t=some (.struct O))(hi:O[i]? =some K)(Y:Bo P K.type=some (U+1))(Z:ρ x= .pointer (some a)):
  Yl P ⟨d,.fieldAddr t x i,ty,p,af,g⟩ ρ s (.pointer (some (a.add K.offset))):=
 EN (sm:=Instr.fieldAt t (ρ x) i) rfl (by
  rw [Z];unfold Instr.fieldAt
  refine Ar _ _ (Ce V ?_)
  simp only [hi,Instr.sureAddr,bind,Sem.bind,pure]
  refine Ar (x:=fieldPlace a K) _ ?_
  unfold fieldPlace
  refine Ar _ _ (EJ Y ?_)
  simp only [Nat.add_eq_zero_iff,Nat.succ_ne_self,and_false,if_false,lp,pure]
  exact⟨trivial,trivial⟩)
theorem MM{a:Addr}{l c K:Nat}(O:P.underlying t=some (.slice e))(U:Bo P e=some K)(V:ρ x= .slice (some a) l c)(Y:ρ y= .int kd m)(h:0<=m/\m<l):
  Yl P ⟨d,.indexAddr t x y,ty,p,af,g⟩ ρ s (.pointer (some (a.add (m.toNat*K)))):=
 EN (sm:=Instr.indexAt t (ρ x) (ρ y)) rfl (by
  rw [V,Y];unfold Instr.indexAt
  simp only [asIntOf,bind,Sem.bind,pure]
  refine Ar (x:=underlying t) _ (Ce O ?_)
  simp only [Sem.bind]
  refine Ar (x:=underlying t) _ (Ce O ?_)
  simp only [Sem.bind,h,and_self,if_true]
  refine Ar (x:=Go.sizeOf e) _ (EJ U ?_)
  exact⟨rfl,rfl⟩)
theorem QW{a:Addr}{l K:Nat}(O:P.underlying t=some (.array l e))(U:Bo P e=some K)(V:ρ x= .pointer (some a))(Y:ρ y= .int kd m)(h:0<=m/\m<l):
  Yl P ⟨d,.indexAddr t x y,ty,p,af,g⟩ ρ s (.pointer (some (a.add (m.toNat*K)))):=
 EN (sm:=Instr.indexAt t (ρ x) (ρ y)) rfl (by
  rw [V,Y];unfold Instr.indexAt
  simp only [asIntOf,bind,Sem.bind,pure]
  refine Ar (x:=underlying t) _ (Ce O ?_)
  simp only [Sem.bind,Instr.sureAddr,pure]
  refine Ar (x:=underlying t) _ (Ce O ?_)
  simp only [Sem.bind,h,and_self,if_true]
  refine Ar (x:=Go.sizeOf e) _ (EJ U ?_)
  exact⟨rfl,rfl⟩)
end
variable {ops:Ao_}{rest:List Nat}
section
variable {b:Frame}{n:Nat}
variable {i:Nat}{x:Operand}{v:Value}
theorem IU{cells:Av_}{Q:Addr->St->Prop}{X:Halt->St->Prop}(K:Nd E H B)(k:∀r,Nd E H (B++ [(r,.cells cells e (0,0))])->Q ⟨r,0,none⟩ (mk E H (B++ [(r,.cells cells e (0,0))]))):lp P (newRow e cells) (mk E H B) Q X:=by
 simp only [newRow,newObj,bind,Sem.bind,lp,pure];refine⟨rfl,λr O U=>?_⟩;obtain⟨V,Y⟩:=Jo O U (.cells cells e (0,0)) K;rw [Y];exact k r V
theorem JL.alloc{z:Value}(K:ops[i]? =some ⟨d,.alloc e,ty,p,af,g⟩)(hw:AR L ops ⟨d,.alloc e,ty,p,af,g⟩=some true)(O:BJ b n ⟨d,.alloc e,ty,p,af,g⟩=true)(U:Nd E H B)(V:zeroOf P e=some z)
  (h:∀r,Nd E H (B++ [(r,.cells z.cells e (0,0))])->JL J Q b n (As L d (.pointer (some ⟨r,0,none⟩))) ds (.inRegion ops rest::k) cs (mk E H (B++ [(r,.cells z.cells e (0,0))]))):
  JL J Q b n L ds (.inRegion ops (i::rest)::k) cs (mk E H B):=
 JL.op K hw O λρ _=>by
  show lp P (do pure (Next.value (← Instr.alloc e true (.tuple #[])))) _ _ _
  refine Ar _ _ ?_
  unfold Instr.alloc
  refine Ar _ _ (GQ V ?_)
  refine Ar _ _ (IU U λr Y=>?_)
  exact h r Y
theorem JL.box(K:ops[i]? =some ⟨d,.box e x,ty,p,af,g⟩)(hw:AR L ops ⟨d,.box e x,ty,p,af,g⟩=some true)(O:BJ b n ⟨d,.box e x,ty,p,af,g⟩=true)(U:Nd E H B)(V:ev L x=some v)
  (h:∀r,Nd E H (B++ [(r,.cells v.cells e (0,0))])->JL J Q b n (As L d (.pointer (some ⟨r,0,none⟩))) ds (.inRegion ops rest::k) cs (mk E H (B++ [(r,.cells v.cells e (0,0))]))):
  JL J Q b n L ds (.inRegion ops (i::rest)::k) cs (mk E H B):=
 JL.op K hw O λρ Y=>by
  show lp P (do pure (Next.value (← Instr.box e (ρ x)))) _ _ _
  rw [Y x v V]
  refine Ar _ _ ?_
  unfold Instr.box
  refine Ar _ _ (IU U λr Z=>?_)
  exact h r Z
def A7(c:Av_)(off:Nat):Lv_->Av_
 | []=>c
 | v::vs=>A7 (c.setIfInBounds off v) (off+1) vs
theorem Lw(c:Av_)(off:Nat)(vs:Lv_):(A7 c off vs).size=c.size:=by
 induction vs generalizing c off with
 | nil=>rfl
 | cons v vs K=>simp [A7,K]
theorem My{bk:Nat}{Q:Unit->St->Prop}{X:Halt->St->Prop}{pl off:Nat}{sp:Option Nat}:∀(vs:Lv_) (j:Nat) (c:Av_) (B:List (Nat×Obj)),(∀v∈vs,B3 v=true)->Nd E H B->B[pl]? =some (bk,.cells c e (0,0))->off+j+vs.length<=c.size->(sp=none∨0<j)->
  (∀B',B'=B.set pl (bk,.cells (A7 c (off+j) vs) e (0,0))->Nd E H B'->Q () (mk E H B'))->lp P (storeCells ⟨bk,off,sp⟩ vs j) (mk E H B) Q X
 | [],j,c,B,_,O,K,_,_,k=>by
  simp only [storeCells,lp,pure]
  refine k B ?_ O
  simp only [A7]
  exact(List.ext_getElem? λi=>by
   by_cases hi:pl=i
   ·subst hi
    obtain⟨Y,Z⟩:=List.getElem?_eq_some_iff.1 K
    simp [Y,Z]
   ·simp [hi])
 | v::vs,j,c,B,U,O,K,hle,V,k=>by
  simp only [storeCells,List.length_cons] at*
  have ac:off+j<c.size:=by omega
  have ag:(Addr.add ⟨bk,off,sp⟩ j)=⟨bk,off+j,none⟩:=by
   unfold Addr.add;split
   ·rename_i al;subst al;rcases V with rfl | V
    ·rfl
    ·omega
   ·rfl
  have am:(cellAt (.cells c e (0,0)) ⟨bk,off+j,none⟩).isSome=true:=by simp [cellAt,ac]
  refine Ar (x:=store (Addr.add ⟨bk,off,sp⟩ j) v) _ ?_;rw [ag];refine⟨rfl,U v (by simp),_,IZ O K,am,by simp [frozenAt],?_⟩;simp only [lp];have ap:Kl (.cells c e (0,0)) ⟨bk,off+j,none⟩ v= .cells (c.setIfInBounds (off+j) v) e (0,0):=by simp [Kl]
  rw [ap,Zm O K];have aq:(B.set pl (bk,.cells (c.setIfInBounds (off+j) v) e (0,0)))[pl]? =some (bk,.cells (c.setIfInBounds (off+j) v) e (0,0)):=by
   have:pl<B.length:=(List.getElem?_eq_some_iff.1 K).1;simp [this]
  refine My vs (j+1) _ _ (λu hu=>U u (List.mem_cons_of_mem _ hu)) (O.set K) aq (by simp;omega) (.inr (by omega)) λaw e2 ay=>k aw ?_ ay;rw [e2,List.set_set];simp only [A7]
  rfl
theorem MA{bk off pl:Nat}{c:Av_}{Q:Unit->St->Prop}{X:Halt->St->Prop}(K:Bo P t=some v.cells.size)(O:∀u∈v.cells.toList,B3 u=true)(U:Nd E H B)(V:B[pl]? =some (bk,.cells c e (0,0)))(hle:off+v.cells.size<=c.size)
  (k:Nd E H (B.set pl (bk,.cells (A7 c off v.cells.toList) e (0,0)))->Q () (mk E H (B.set pl (bk,.cells (A7 c off v.cells.toList) e (0,0))))):lp P (storeVar t ⟨bk,off,none⟩ v) (mk E H B) Q X:=by
 unfold storeVar;refine Ar _ _ (EJ K ?_);simp only [ne_eq,not_true_eq_false,if_false];refine My v.cells.toList 0 c B O U V (by simpa using hle) (.inl rfl) λB' e Y=>?_;subst e;exact k Y
theorem JL.store{bk off:Nat}{c:Av_}(pl:Nat)(O:ops[i]? =some ⟨d,.store t x y,ty,p,af,g⟩)(hw:AR L ops ⟨d,.store t x y,ty,p,af,g⟩=some true)(U:BJ b n ⟨d,.store t x y,ty,p,af,g⟩=true)(V:Nd E H B)
  (Y:ev L x=some (.pointer (some ⟨bk,off,none⟩))) (Z:ev L y=some v) (ac:Bo P t=some v.cells.size) (ag:∀u∈v.cells.toList,B3 u=true) (al:B[pl]? =some (bk,.cells c e (0,0))) (hle:off+v.cells.size<=c.size)
  (h:Nd E H (B.set pl (bk,.cells (A7 c off v.cells.toList) e (0,0)))->JL J Q b n (As L d undef) ds (.inRegion ops rest::k) cs (mk E H (B.set pl (bk,.cells (A7 c off v.cells.toList) e (0,0))))):
  JL J Q b n L ds (.inRegion ops (i::rest)::k) cs (mk E H B):=
 JL.op O hw U λρ K=>by
  show lp P (do Instr.storeAt t (ρ x) (ρ y);pure Next.skip) _ _ _
  rw [K x _ Y,K y _ Z]
  refine Ar _ _ ?_
  unfold Instr.storeAt
  simp only [Instr.sureAddr,bind,Sem.bind,pure]
  exact MA ac ag V al hle λam=>h am
end
def FB(P:Program)(t:TypeId):Option Nat:=(P.info? t).map (·.bytes)
section
variable {b:Frame}{n:Nat}
variable {i:Nat}{x:Operand}{v:Value}
theorem J4{inf:TypeInfo}{Q:TypeInfo->St->Prop}{X:Halt->St->Prop}(h:P.info? t=some inf)(k:Q inf s):lp P (typeInfo t) s Q X:=by
 simp only [typeInfo,bind,Sem.bind,program,lp,h];exact k
theorem Ov{K:Nat}(h:FB P t=some K):∃inf,P.info? t=some inf/\inf.bytes=K:=by
 unfold FB at h;cases hi:P.info? t with
 | none=>rw [hi] at h;cases h
 | some i=>rw [hi] at h;simp at h;exact⟨i,rfl,h⟩
theorem IY{β:Type}{z y:Nat}{code:BoundsCode}{f:Nat->Sem β}{K:β->St->Prop}{X:Halt->St->Prop}(V:z<=y)(O:lp P (f z) s K X):lp P (Instr.sliceBound (.int .i64 z) y code>>=f) s K X:=by
 refine Ar _ _ ?_;unfold Instr.sliceBound;have U:(0:Int)<=(z:Int)/\(z:Int)<=(y:Int):=⟨by omega,by omega⟩;simp only [asIntOf,bind,Sem.bind,pure];rw [if_pos U];simpa [lp] using O
theorem HV{α β:Type}(a:α)(f:α->Sem β):((pure a:Sem α)>>=f)=f a:=rfl
theorem aI{l c:Nat}{X:Halt->St->Prop}:lp P (Instr.sliceBounds true l c none none none) s (λr s'=>r=(0,l,c)/\s'=s) X:=by
 unfold Instr.sliceBounds;exact⟨V,V⟩
theorem aX{l c:Nat}{lo:Nat}(K:lo<=l){X:Halt->St->Prop}:lp P (Instr.sliceBounds true l c (some (.int .i64 lo)) none none) s (λr s'=>r=(lo,l,c)/\s'=s) X:=by
 simp only [Instr.sliceBounds,if_true,Option.isSome_none,Option.isSome_some,Bool.false_eq_true,if_false,HV];exact IY K ⟨V,V⟩
theorem bh{l c:Nat}{hi:Nat}(hh:hi<=c){X:Halt->St->Prop}:lp P (Instr.sliceBounds true l c none (some (.int .i64 hi)) none) s (λr s'=>r=(0,hi,c)/\s'=s) X:=by
 simp only [Instr.sliceBounds,if_true,Option.isSome_none,Option.isSome_some,Bool.false_eq_true,if_false,HV];exact IY hh ⟨V,V⟩
theorem aB{l c:Nat}{lo hi:Nat}(hh:hi<=c)(K:lo<=hi){X:Halt->St->Prop}:lp P (Instr.sliceBounds true l c (some (.int .i64 lo)) (some (.int .i64 hi)) none) s (λr s'=>r=(lo,hi,c)/\s'=s) X:=by
 have e:Instr.sliceBounds true l c (some (.int .i64 lo)) (some (.int .i64 hi)) none=(Instr.sliceBound (.int .i64 hi) c .sliceAcap>>=λh=>Instr.sliceBound (.int .i64 lo) h .sliceB>>=λl=>pure (l,h,c)):=by
  simp [Instr.sliceBounds]
 rw [e];exact IY hh (IY K ⟨V,V⟩)
theorem aP{l c:Nat}{hi mx:Nat}(hm:mx<=c)(hh:hi<=mx){X:Halt->St->Prop}:lp P (Instr.sliceBounds true l c none (some (.int .i64 hi)) (some (.int .i64 mx))) s (λr s'=>r=(0,hi,mx)/\s'=s) X:=by
 simp only [Instr.sliceBounds,if_true,Option.isSome_none,Option.isSome_some,Bool.false_eq_true,if_false,HV];exact IY hm (IY hh ⟨V,V⟩)
theorem aS{l c:Nat}{lo hi mx:Nat}(hm:mx<=c)(hh:hi<=mx)(K:lo<=hi){X:Halt->St->Prop}:lp P (Instr.sliceBounds true l c (some (.int .i64 lo)) (some (.int .i64 hi)) (some (.int .i64 mx))) s (λr s'=>r=(lo,hi,mx)/\s'=s) X:=by
 simp only [Instr.sliceBounds,if_true,Option.isSome_none,Option.isSome_some,Bool.false_eq_true,if_false,HV];exact IY hm (IY hh (IY K ⟨V,V⟩))
theorem Wb{l c lo hi mx:Nat}{V Y Z:Option Value}{X:Halt->St->Prop}
  (O:match Z with | some w=>w= .int .i64 mx | none=>mx=c) (K:match Y with | some w=>w= .int .i64 hi | none=>hi=l/\Z=none) (U:match V with | some w=>w= .int .i64 lo | none=>lo=0) (hm:mx<=c) (hh:hi<=mx) (ac:lo<=hi):
  lp P (Instr.sliceBounds true l c V Y Z) s (λr s'=>r=(lo,hi,mx)/\s'=s) X:=by
 cases Z with
 | none=>
  cases Y with
  | none=>
   cases V with
   | none=>obtain rfl:mx=c:=O;obtain rfl:hi=l:=K.1;obtain rfl:lo=0:=U;exact aI
   | some w=>obtain rfl:mx=c:=O;obtain rfl:hi=l:=K.1;obtain rfl:w= .int .i64 lo:=U;exact aX ac
  | some w=>
   cases V with
   | none=>obtain rfl:mx=c:=O;obtain rfl:w= .int .i64 hi:=K;obtain rfl:lo=0:=U;exact bh hh
   | some w'=>obtain rfl:mx=c:=O;obtain rfl:w= .int .i64 hi:=K;obtain rfl:w'= .int .i64 lo:=U;exact aB hh ac
 | some w0=>
  cases Y with
  | none=>exact absurd K.2 (λh=>by cases h)
  | some w=>
   cases V with
   | none=>obtain rfl:w0= .int .i64 mx:=O;obtain rfl:w= .int .i64 hi:=K;obtain rfl:lo=0:=U;exact aP hm hh
   | some w'=>obtain rfl:w0= .int .i64 mx:=O;obtain rfl:w= .int .i64 hi:=K;obtain rfl:w'= .int .i64 lo:=U;exact aS hm hh ac
theorem Xr{a:Option Addr}{l c O lo hi mx:Nat}{U V K:Option Value}{Q:Value->St->Prop}{X:Halt->St->Prop}(Y:P.underlying t=some (.slice e))(Z:Bo P e=some O)
  (ac:match K with | some w=>w= .int .i64 mx | none=>mx=c) (ag:match V with | some w=>w= .int .i64 hi | none=>hi=l/\K=none) (al:match U with | some w=>w= .int .i64 lo | none=>lo=0) (hm:mx<=c) (hh:hi<=mx) (am:lo<=hi)
  (k:Q (.slice (if mx=lo then a else a.map (·.add (lo*O))) (hi - lo) (mx - lo)) s):lp P (Instr.slice t (.slice a l c) U V K) s Q X:=by
 unfold Instr.slice;refine Ar _ _ (Ce Y ?_);have hb:=Wb (P:=P) (s:=s) (X:=X) ac ag al hm hh am;refine Ar _ _ (DO _ hb ?_ (λ_ _ h=>h));rintro r s' ⟨rfl,rfl⟩;exact Ar _ _ (EJ Z k)
theorem Yl.slice{ρ:Operand->Value}{a:Option Addr}{l c O lo hi mx:Nat}{olo ohi omx:Option Operand}(U:P.underlying t=some (.slice e))(V:Bo P e=some O)(Y:ρ x= .slice a l c)
  (Z:match omx with | some w=>ρ w= .int .i64 mx | none=>mx=c) (K:match ohi with | some w=>ρ w= .int .i64 hi | none=>hi=l/\omx=none) (ac:match olo with | some w=>ρ w= .int .i64 lo | none=>lo=0) (hm:mx<=c) (hh:hi<=mx) (ag:lo<=hi):
  Yl P ⟨d,.slice t x olo ohi omx,ty,p,af,g⟩ ρ s (.slice (if mx=lo then a else a.map (·.add (lo*O))) (hi - lo) (mx - lo)):=
 EN (sm:=Instr.sliceAt t (ρ x) (olo.map ρ) (ohi.map ρ) (omx.map ρ)) rfl (by
  rw [Y];unfold Instr.sliceAt
  refine Ar _ _ (Ce U ?_)
  refine Xr U V (mx:=mx) (hi:=hi) (lo:=lo) ?_ ?_ ?_ hm hh ag ⟨rfl,rfl⟩
  ·cases omx <;> exact Z
  ·cases ohi with
   | none=>exact⟨K.1,by rw [K.2];rfl⟩
   | some w=>exact K
  ·cases olo <;> exact ac)
def HF(s:St)(v:Value)(K:Nat)(xs:Lv_):Prop:=
 match v with
 | .slice (some a) l c=>(a.spot=none∨l=0)/\xs.length=l*K/\l<=c/\∀j w,xs[j]? =some w->s.cell? ⟨a.block,a.off+j,none⟩=some w
 | .slice none l _=>l=0/\xs= []
 | _=>False
theorem Ei{a:Addr}(h:a.spot=none)(j:Nat):a.add j=⟨a.block,a.off+j,none⟩:=by
 unfold Addr.add;obtain⟨b,o,sp⟩:=a;simp only at h;subst h;split
 ·rename_i e;subst e;rfl
 ·rfl
theorem J3{V l:Nat}{xs:Lv_}{Q:Av_->St->Prop}{X:Halt->St->Prop}(Y:∃a c,v= .slice a l c)(h:HF s v V xs)(k:Q xs.toArray s):lp P (Builtin.firstCells V l v) s Q X:=by
 obtain⟨a,c,rfl⟩:=Y;cases a with
 | none=>
  obtain⟨K,rfl⟩:=h;exact k
 | some a=>
  obtain⟨K,O,ac,Z⟩:=h;refine Qm O.symm (λj w U=>?_) k;rcases K with K | K
  ·rw [Ei K];exact Z j w U
  ·rw [K,Nat.zero_mul] at O;rw [List.eq_nil_of_length_eq_zero O] at U;cases U
theorem Wk(nl:Nat):∀(r c:Nat),Builtin.growBy nl r c<=max c (2*nl+768):=by
 intro r
 induction r with
 | zero=>intro c;simp [Builtin.growBy];omega
 | succ r K=>
  intro c;simp only [Builtin.growBy];split
  ·omega
  ·rename_i h;have:=K (c+(c+768) / 4);omega
theorem QD{need old:Nat}(h:old<need):Builtin.nextslicecap need old<=2*need+768:=by
 unfold Builtin.nextslicecap;split
 ·omega
 ·split
  ·omega
  ·have:=Wk need 4 old;omega
theorem Qg(z:Av_)(m:Nat):(Builtin.zeroCells z m).size=m*z.size:=by simp [Builtin.zeroCells]
def NA(B:List (Nat×Obj))(pl:Nat)(e:TypeId)(K:Nat)(a:Option Addr)(l c:Nat)(xs:Lv_):Prop:=
 (a=none/\l=0/\c=0/\xs= [])∨∃bk f,a=some ⟨bk,0,none⟩/\B[pl]? =some (bk,.cells f e (0,0))/\f.size=c*K/\l<=c/\xs=f.toList.take (l*K)
theorem Ob(c:Av_)(off:Nat)(vs:Lv_)(h:off+vs.length<=c.size):(A7 c off vs).toList.take (off+vs.length)=c.toList.take off++vs:=by
 induction vs generalizing c off with
 | nil=>simp [A7]
 | cons v vs O=>
  simp only [A7,List.length_cons] at*;have:=O (c.setIfInBounds off v) (off+1) (by simp;omega);rw [show off+(vs.length+1)=off+1+vs.length from by omega,this];have K:off<c.toList.length:=by simp;omega
  rw [Array.toList_setIfInBounds,List.take_add_one];have U:(c.toList.set off v)[off]? =some v:=by simp at K;simp [K]
  rw [U];simp [List.take_set_of_le]
theorem Ox{ats:Array TypeId}{a:Option Addr}{l c K V m cx:Nat}{ax:Option Addr}{xs ys:Lv_}{z:Value}{Q:Value->St->Prop}{X:Halt->St->Prop}{pl:Nat}
  (a7:ats[0]? =some t) {t1 a8:TypeId} (a9:ats[1]? =some t1) (bb:P.underlying t1=some (.slice a8)) (bd:P.underlying t=some (.slice e)) (be:Bo P e=some K) (hb:FB P e=some V) (bi:zeroOf P e=some z) (bn:z.cells.size=K)
  (ap:Nd E H B) (aq:NA B pl e K a l c xs)
  (al:HF (mk E H B) (.slice ax m cx) K ys) (bo:∀w∈ys,B3 w=true) (b4:0<V) (b5:l+m<=2 ^ 40) (bv:V<=64)
  (bw:∀bk f O,a=some ⟨bk,0,none⟩->B[pl]? =some (bk,.cells f e (0,0))->O=A7 f (l*K) ys->l+m<=c->O.size=c*K->O.toList.take ((l+m)*K)=xs++ys->Nd E H (B.set pl (bk,.cells O e (0,0)))->Q (.slice a (l+m) c) (mk E H (B.set pl (bk,.cells O e (0,0)))))
  (bx:a=none->m=0->Q (.slice none 0 0) (mk E H B))
  (bz:∀r O Y,l+m<=Y->O.size=Y*K->O.toList.take ((l+m)*K)=xs++ys->Nd E H (B++ [(r,.cells O e (0,0))])->Q (.slice (some ⟨r,0,none⟩) (l+m) Y) (mk E H (B++ [(r,.cells O e (0,0))]))):
  lp P (Builtin.append_ ats ty #[.slice a l c,.slice ax m cx]) (mk E H B) Q X:=by
 unfold Builtin.append_;simp only [a7,a9,List.getElem?_toArray,List.getElem?_cons_zero,List.getElem?_cons_succ];refine Ar _ _ (Ce bd ?_);refine Ar _ _ (EJ be ?_);refine Ar _ _ (Ce bb ?_);simp only [HV,Bool.false_eq_true,if_false,Builtin.lenOf,Bool.not_false,if_true];have Z:ys.length=m*K:=by
  cases ax with
  | none=>obtain⟨aw,ay⟩:=al;subst aw ay;simp
  | some ad=>exact al.2.1
 have az:∃(bY:Option Addr) (Y:Nat),HF (mk E H B) (.slice a l c) K xs/\bY=a/\Y=c:=by
  refine⟨a,c,?_,rfl,rfl⟩;rcases aq with⟨rfl,rfl,rfl,rfl⟩ | ⟨bk,f,rfl,ac,U,ag,rfl⟩
  ·exact⟨rfl,rfl⟩
  ·have hle:l*K<=f.size:=by rw [U];exact Nat.mul_le_mul_right _ ag
   refine⟨.inl rfl,by simp [Nat.min_eq_left hle],ag,λj w am=>?_⟩;refine RX ap ac ?_;simp only [Nat.zero_add];rw [List.getElem?_take] at am;split at am
   ·simpa using am
   ·cases am
 obtain⟨_,_,az,_,_⟩:=az;have a0:xs.length=l*K:=by
  rcases aq with⟨rfl,rfl,rfl,rfl⟩ | ⟨bk,f,rfl,ac,U,ag,rfl⟩
  ·simp
  ·have hle:l*K<=f.size:=by rw [U];exact Nat.mul_le_mul_right _ ag
   simp [Nat.min_eq_left hle]
 split
 ·rename_i a5;refine Ar _ _ (J3 ⟨ax,cx,rfl⟩ al ?_);rcases aq with⟨rfl,rfl,rfl,rfl⟩ | ⟨bk,f,rfl,ac,U,ag,rfl⟩
  ·obtain rfl:m=0:=by omega
   simp only;exact bx rfl rfl
  ·simp only;have hle:l*K+ys.length<=f.size:=by rw [Z,U,← Nat.add_mul];exact Nat.mul_le_mul_right _ a5
   have bZ:(Addr.add ⟨bk,0,none⟩ (l*K))=⟨bk,l*K,none⟩:=by rw [Ei rfl];simp
   rw [bZ];refine Ar _ _ (My (pl:=pl) ys.toArray.toList 0 f B (by simpa using bo) ap ac (by simpa using hle) (.inl rfl) λB' a6 a1=>?_);simp only [Nat.add_zero] at a6;subst a6;refine bw bk f _ rfl ac rfl a5 (by rw [Lw,U]) ?_ a1;have:=Ob f (l*K) ys hle;rw [Z,← Nat.add_mul] at this;exact this
 ·rename_i b6;have aw:¬(((l+m:Nat):Int)>IntKind.i64.max/\(False∨V=0)):=by rintro⟨_,h | h⟩ <;> omega
  have ay:¬(Builtin.nextslicecap (l+m) c*V>2 ^ 48):=by
   have:=QD (need:=l+m) (old:=c) (by omega);have b7:Builtin.nextslicecap (l+m) c*V<=(2*(l+m)+768)*64:=Nat.mul_le_mul this bv;omega
  obtain⟨inf,a2,a3⟩:=Ov hb;refine Ar _ _ (J4 a2 ?_);rw [a3,if_neg aw];refine Ar _ _ (J4 a2 ?_);rw [a3,if_neg ay];refine Ar _ _ ?_;simp only [choose,lp,Question.forced,Bool.false_eq_true,if_false];refine⟨rfl,λb0=>?_⟩;generalize b1:(Question.appendCap (l+m) c e).cut b0=a4;have b2:l+m<=a4:=by rw [← b1];simp [Question.cut]
  refine Ar _ _ (J4 a2 ?_);rw [a3];have b3:∀{α:Type} {f:Unit->Sem α} {Q:α->St->Prop},lp P (f ()) (mk E H B) Q X->lp P (askRoom (a4*V)>>=f) (mk E H B) Q X:=by
   intro α f Q U;refine Ar _ _ ?_;unfold askRoom;split
   ·exact⟨.inl ⟨rfl,rfl⟩,U⟩
   ·exact U
  refine b3 (Ar _ _ (J3 ⟨a,c,rfl⟩ az ?_));refine Ar _ _ (J3 ⟨ax,cx,rfl⟩ al ?_);refine Ar _ _ (GQ bi ?_);refine Ar _ _ (IU ap λr a1=>?_);refine bz r _ a4 b2 ?_ ?_ a1
  ·simp only [Array.size_append,List.size_toArray,Qg,bn,a0,Z];rw [← Nat.add_mul,← Nat.add_mul];congr 1;omega
  ·simp only [Array.toList_append];rw [List.take_append_of_le_length (by simp [a0,Z,Nat.add_mul])];rw [List.take_of_length_le (by simp [a0,Z,Nat.add_mul])]
end
theorem NO{P:Program}{α:Type}(x:Sem α):∀{s:St} {Q:α->St->Prop} {X:Halt->St->Prop},lp P x s Q X->lp P x s (λa s'=>Q a s'/\s'.E=s.E/\s'.q=s.q) X:=by
 induction x with
 | pure a=>intro s Q X h;exact⟨h,rfl,rfl⟩
 | load m a k K=>intro s Q X h;obtain⟨O,v,U,V⟩:=h;exact⟨O,v,U,K _ V⟩
 | store m a v k K=>intro s Q X h;obtain⟨O,U,o,V,Z,ac,ag⟩:=h;exact⟨O,U,o,V,Z,ac,K ag⟩
 | new o k K=>intro s Q X h;exact⟨h.1,λr O U=>K _ (h.2 r O U)⟩
 | shape r k K=>intro s Q X h;obtain⟨o,O,U⟩:=h;exact⟨o,O,K _ U⟩
 | freeze a n k K=>intro s Q X h;exact h
 | frozen a k K=>intro s Q X h;obtain⟨o,O,U⟩:=h;exact⟨o,O,K _ U⟩
 | getObj r k K=>intro s Q X h;obtain⟨o,O,U,V⟩:=h;exact⟨o,O,U,K _ V⟩
 | setObj r o k K=>intro s Q X h;obtain⟨O,U,V⟩:=h;exact⟨O,U,K V⟩
 | choose q k K=>
  intro s Q X h;simp only [lp] at h ⊢;split
  ·rename_i Y;rw [if_pos Y] at h;exact K _ h
  ·rename_i Y;rw [if_neg Y] at h;exact⟨h.1,λt=>K _ (h.2 t)⟩
 | sys c k K=>intro s Q X h;exact h
 | program k K=>intro s Q X h;exact K _ h
 | mark m k K=>intro s Q X h;exact⟨h.1,K h.2⟩
 | halt h=>intro s Q X h;exact h
def Br(D:Nat->Bool)(s:St):St:=⟨λb=>if D b then s.get b else s.E b,λb=>if D b then none else s.H b,s.q⟩
def Cn(D:Nat->Bool)(s s':St):St:=⟨λb=>if D b then s.E b else s'.E b,λb=>if D b then s.H b else s'.H b,s'.q⟩
theorem LA(D:Nat->Bool)(s:St):Cn D s (Br D s)=s:=by
 obtain⟨E,H,q⟩:=s;unfold Cn Br;congr 1
 ·funext b;by_cases h:D b <;> simp [h]
 ·funext b;by_cases h:D b <;> simp [h]
theorem WT{D:Nat->Bool}{s:St}{w:World}(f:Fits s w):Fits (Br D s) w where
 e b o h:=by
  by_cases hd:D b
  ·simp [Br,hd] at h;exact f.get h
  ·simp [Br,hd] at h;exact f.e b o h
 h b o h:=by
  by_cases hd:D b
  ·simp [Br,hd] at h
  ·simp [Br,hd] at h;exact f.h b o h
 d b h:=by
  by_cases hd:D b
  ·simp [Br,hd]
  ·simp [Br,hd] at h ⊢;exact f.d b h
def EF{P:Program}(J:Judge P)(f:FuncId)(args:Av_)(s:St)(R:Value->St->Prop):Prop:=
 ∀(Q:Gs_) (c:Frame) (cs:Lf_),(∀v s',R v s'->J.ok Q (G (c.finish v) cs) s')->J.ok Q (G (Frame.enter P f args .normal) (c::cs)) s
theorem EF.Ag{P:Program}{J:Judge P}{f:FuncId}{args:Av_}{s:St}{R K:Value->St->Prop}(h:EF J f args s R)(O:∀v s',R v s'->K v s'):EF J f args s K:=
 λQ c cs U=>h Q c cs λv s' V=>U v s' (O v s' V)
section
variable {b:Frame}{n:Nat}
theorem Judge.SE(D:Nat->Bool){T:Av_}{ops:Ao_}{i:Nat}{rest:List Nat}{o:Oper}(V:ops[i]? =some o)(hw:Region.wanted o (yielded ops T)=true)(a6:b.kind≠ .early)
  (hd:∀c,o.op≠ .defer c) (a7:s.q=false)
  (h:lp P (execOp (BA T) o) (Br D s) (λam s'=>upon J Q b T ds ops i rest k cs o.dst am (Cn D s s')) (λ_ _=>False)):
  J.ok Q (G (fr b T ds (.inRegion ops (i::rest)::k)) cs) s:=by
 refine J.step ⟨rfl,λw f=>?_,λe=>by subst e;cases a7⟩;have Y:((fr b T ds (.inRegion ops (i::rest)::k)).kind==CallKind.early)=false:=by simpa [fr] using a6
 have a8:stepG P J.main (G (fr b T ds (.inRegion ops (i::rest)::k)) cs) w=stepG.apply P true (fr b T ds (.inRegion ops (i::rest)::k)) cs none (execOp (BA T) o) w:=by
  rw [stepG_op V hw];split
  ·rename_i l c bo e2;exact absurd e2 (hd c)
  ·rfl
 obtain⟨Z,ap,aq,a9,O⟩:=MT _ (NO _ h) (WT (D:=D) f);have aw:=OY (P:=P) (fn:=b.fn) a9;have a1:=λv=>Gf (b:=b) (ds:=ds) (k:=k) T ops i rest v o V;have key:∀w',Fits Z w'->Fr (Br D s) w Z w'->Z.E=(Br D s).E->Fits (Cn D s Z) w'/\Fr s w (Cn D s Z) w':=by
  intro w' ay g2 bb;have a2:∀b,D b=true->b<w.heap.size->w'.heap[b]? =w.heap[b]? :=λb hb az=>g2.keep b az (by simp [Br,hb]);have a3:∀b o,(s.H b=some o∨s.E b=some o)->b<w.heap.size:=λb o V=>by
   have:=V.elim (f.h b o) (f.e b o);rcases Nat.lt_or_ge b w.heap.size with a0 | a0
   ·exact a0
   ·simp [Array.getElem?_eq_none a0] at this
  refine⟨⟨λb o hb=>?_,λb o hb=>?_,λb hb=>?_⟩,⟨g2.size,λb az hb=>?_,λb hb=>?_,λb o hb=>?_,λb hb=>?_,g2.tape,g2.os,g2.output⟩⟩
  ·by_cases K:D b
   ·simp [Cn,K] at hb;rw [a2 b K (a3 b o (.inr hb))];exact f.e b o hb
   ·simp [Cn,K] at hb;exact ay.e b o hb
  ·by_cases K:D b
   ·simp [Cn,K] at hb;rw [a2 b K (a3 b o (.inl hb))];exact f.h b o hb
   ·simp [Cn,K] at hb;exact ay.h b o hb
  ·by_cases K:D b
   ·simp [Cn,K] at hb ⊢;exact f.d b hb
   ·simp [Cn,K] at hb ⊢;exact ay.d b hb
  ·exact g2.keep b az (by by_cases K:D b <;> simp [Br,K,hb])
  ·by_cases K:D b
   ·simp [Cn,K] at hb;exact .inl hb
   ·simp [Cn,K] at hb;rcases g2.own b hb with q | q
    ·left;simpa [Br,K] using q
    ·exact .inr q
  ·by_cases K:D b
   ·simp [Cn,K];exact hb
   ·simp only [Cn,K,Bool.false_eq_true,if_false];rw [bb];simp [Br,K,hb]
  ·by_cases K:D b
   ·simp [Cn,K] at hb;exact .inl hb
   ·simp [Cn,K] at hb;rcases g2.EB b hb with q | q | q
    ·left;simpa [Br,K] using q
    ·right;left;simpa [Br,K] using q
    ·exact .inr (.inr q)
 have bd:∀w',(∀e∈seen P b.fn ((execOp (BA T) o).events P w #[]),Ev (Br D s) w w' e)->∀e∈seen P b.fn ((execOp (BA T) o).events P w #[]),Ev s w w' e:=by
  intro w' he e hm;have:=he e hm;have a4:∀{b wr},GB (Br D s) w w' b wr->GB s w w' b wr:=by
   intro b wr a5;refine⟨a5.1,?_⟩;rcases a5.2 with q | q | ⟨q,q'⟩
   ·left;by_cases K:D b <;> simp [Br,K] at q;exact q
   ·exact .inr (.inl q)
   ·by_cases K:D b
    ·simp [Br,K,St.get] at q;by_cases al:s.E b=none
     ·left;intro be;rw [al,be] at q;exact q rfl
     ·exact .inr (.inr ⟨al,q'⟩)
    ·simp [Br,K] at q;exact .inr (.inr ⟨q,q'⟩)
  unfold Ev at this ⊢;split <;> rename_i bi <;> simp only [bi] at this
  ·exact⟨this.1,a4 this.2⟩
  ·exact⟨this.1,a4 this.2⟩
  ·trivial
  ·trivial
 rw [a8];cases U:(execOp (BA T) o).run P w with
 | ok am w'=>
  rw [U] at ap aq O aw;simp only [Kp] at ap aq aw;obtain⟨O,al,_⟩:=O;obtain⟨k1,ac⟩:=key w' ap aq al;have ag:=bd w' aw;cases am with
  | value v=>exact⟨_,_,w',seen P b.fn ((execOp (BA T) o).events P w #[])++ #[],by simp [stepG.apply,U,Y,GStep.after,G,a1,FO],O,k1,ac,by simpa using ag⟩
  | skip=>exact⟨_,_,w',seen P b.fn ((execOp (BA T) o).events P w #[])++ #[],by simp [stepG.apply,U,Y,GStep.after,G,a1,FO],O,k1,ac,by simpa using ag⟩
  | enter g args=>exact⟨_,_,w',seen P b.fn ((execOp (BA T) o).events P w #[])++ #[],by simp [stepG.apply,U,Y,GStep.after,G,FO,H3],O,k1,ac,by simpa using ag⟩
  | round l g tm as bv=>exact⟨_,_,w',seen P b.fn ((execOp (BA T) o).events P w #[])++ #[],by simp [stepG.apply,U,Y,GStep.after,G,FO,H3],O,k1,ac,by simpa using ag⟩
  | defer d=>
   have bn:=Gf (b:=b) (ds:=d::ds) (k:=k) T ops i rest undef o V;exact⟨_,_,w',seen P b.fn ((execOp (BA T) o).events P w #[])++ #[],by
    rw [← bn];simp [stepG.apply,U,Y,GStep.after,G,FO,H3];rfl,O,k1,ac,by simpa using ag⟩
  | _=>exact O.elim
 | halt x w'=>rw [U] at O;exact O.elim
end
def Pz(m:Nat)(listed:Array Bool):Bool:=(List.range m).all λi=>listed.getD i false
def A8(listed:Array Bool)(i:Nat):Array Bool:=listed.setIfInBounds i true
section
variable (J:Judge P)(Q:Gs_)(b:Frame)(ds:Ld_)(ops:Ao_)(k:Li_)(cs:Lf_)(m:Nat)(D:Nat->Bool)
def JA:Nat->Array Bool->Av_->St->Prop
 | 0,listed,T,s=>Region.ready .any ops listed= []/\J.ok Q (G (fr b T ds (.inRegion ops []::k)) cs) s
 | fuel+1,listed,T,s=>
  (Pz m listed=true/\∀t,J.ok Q (G (fr b T ds (.inRegion ops (Region.linearise.go .any ops (fuel+1) t listed [])::k)) cs) s)∨
  (Region.ready .any ops listed≠ []/\s.q=false/\∀i∈Region.ready .any ops listed,∀o,ops[i]? =some o->(∀c,o.op≠ .defer c)/\
   (Region.wanted o (yielded ops T)=false->JA fuel (A8 listed i) (CL T o.dst undef) s)/\
   (Region.wanted o (yielded ops T)=true->lp P (execOp (BA T) o) (Br D s) (λO s'=>match O with
    | .value v=>JA fuel (A8 listed i) (CL T o.dst v) (Cn D s s')
    | .skip=>JA fuel (A8 listed i) (CL T o.dst undef) (Cn D s s')
    | .enter f args=>∃R,EF J f args (Cn D s s') R/\∀v K,R v K->K.q=false/\(∀x o,(Br D s).E x=some o->(Br D K).E x=some o)/\JA fuel (A8 listed i) (CL T o.dst v) K
    | _=>False) (λ_ _=>False)))
variable {J Q b ds ops k cs m D}
theorem Xs(Y:b.kind≠ .early):∀(fuel t:Nat) (listed:Array Bool) (T:Av_) (s:St),JA J Q b ds ops k cs m D fuel listed T s->
  J.ok Q (G (fr b T ds (.inRegion ops (Region.linearise.go .any ops fuel t listed [])::k)) cs) s:=by
 intro fuel
 induction fuel with
 | zero=>intro t listed T s h;simpa [Region.linearise.go] using h.2
 | succ fuel K=>
  intro t listed T s h;rcases h with⟨_,h⟩ | ⟨Z,ac,h⟩
  ·exact h t
  ·obtain⟨i,hi⟩:∃i,(Region.ready .any ops listed)[t % (Region.ready .any ops listed).length]? =some i:=by
    have:0<(Region.ready .any ops listed).length:=List.length_pos_iff.2 Z;exact⟨_,List.getElem?_eq_getElem (Nat.mod_lt _ this)⟩
   have V:=List.mem_of_getElem? hi;have hgo:Region.linearise.go .any ops (fuel+1) t listed []=i::Region.linearise.go .any ops fuel (t / (Region.ready .any ops listed).length) (A8 listed i) []:=by
    simp only [Region.linearise.go];change (match(Region.ready .any ops listed)[t % (Region.ready .any ops listed).length]? with
     | some i=>Region.linearise.go .any ops fuel (t / (Region.ready .any ops listed).length) (listed.setIfInBounds i true) [i]
     | none=> [].reverse)=_
    rw [hi];simp only;rw [linearise_go_acc];rfl
   rw [hgo];obtain⟨_,o,O,_⟩:=mem_ready.1 V;obtain⟨hd,ag,al⟩:=h i V o O;cases hw:Region.wanted o (yielded ops T) with
   | false=>exact Judge.unwanted O hw (K _ _ _ _ (ag hw))
   | true=>
    refine Judge.SE D O hw Y hd ac (DO _ (al hw) ?_ (λ_ _ h=>h));intro am s' U;cases am with
    | value v=>exact K _ _ _ _ U
    | skip=>exact K _ _ _ _ U
    | enter f args=>
     obtain⟨R,ap,aq⟩:=U;refine ap Q _ cs λv aw ay=>?_;rw [Gf _ _ _ _ _ _ O];exact K _ _ _ _ (aq v aw ay).2.2
    | _=>exact U.elim
theorem Ym{T:Av_}{d:Option Tmp}{v:Value}{x:Operand}(h:∀t,d=some t->x≠ .tmp t):BA (CL T d v) x=BA T x:=by
 cases d with
 | none=>rfl
 | some t=>
  cases x with
  | tmp u=>
   have K:t≠u:=λe=>h t rfl (e▸rfl);simp only [CL,BA,Array.getD_eq_getD_getElem?,Array.getElem?_setIfInBounds_ne K]
  | _=>rfl
theorem HY{T:Av_}{d:Option Tmp}{v:Value}{o:Oper}(K:∀cs b,o.op≠ .select cs b)(h:∀t,d=some t->t ∉ o.looksAt ops):
  execOp (BA (CL T d v)) o=execOp (BA T) o/\Region.wanted o (yielded ops (CL T d v))=Region.wanted o (yielded ops T):=by
 refine⟨execOp_congr o K λx O=>Ym λt U V=>h t U ?_,?_⟩
 ·subst V;exact List.mem_append_left _ (List.mem_filterMap.2 ⟨.tmp t,by simpa using O,rfl⟩)
 ·have:=wanted_put (ops:=ops) o (⟨T,[]⟩:Act) d v h
  rwa [act_put'] at this
 where
  act_put' {T : Av_} {d : Option Tmp} {v : Value} : (⟨T, []⟩ : Act).put d v = ⟨CL T d v, []⟩ := by cases d <;> rfl
theorem IW{T:Av_}{d e:Option Tmp}{v u:Value}(h:∀t,d=some t->e≠some t):CL (CL T d v) e u=CL (CL T e u) d v:=by
 cases d with
 | none=>rfl
 | some t=>
  cases e with
  | none=>rfl
  | some K=>
   have O:t≠K:=λq=>h t rfl (q▸rfl);simp [CL,Array.setIfInBounds_comm _ _ O]
theorem Qy{D:Nat->Bool}{s s':St}(K:s'.E=(Br D s).E):(Br D (Cn D s s')).E=(Br D s).E:=by
 funext x;by_cases h:D x
 ·simp [Br,Cn,h,St.get]
 ·have:=congrFun K x;simp [Br,h] at this;simp [Br,Cn,h,this]
def IB(ops:Ao_)(listed:Array Bool)(i:Nat)(oi:Oper):Bool:=
 (List.range ops.size).all λj=>j==i || listed.getD j true || match ops[j]? with
  | some K=>(K.after.any λe=>Region.binds .any e&&e.on==i) || oi.apart ops K
  | none=>true
def waits(ops:Ao_):Nat->Nat->Nat->Bool
 | 0,_,_=>false
 | f+1,j,i=>match ops[j]? with
  | some K=>K.after.any λe=>Region.binds .any e&&(e.on==i || waits ops f e.on i)
  | none=>true
def DG(ops:Ao_)(m:Nat):Bool:=
 (List.range ops.size).all λj=>decide (j<m) || (List.range m).all λi=>waits ops ops.size j i
def Hw(ops:Ao_)(listed:Array Bool):Bool:=
 (List.range ops.size).all λj=> !listed.getD j false || match ops[j]? with
  | some K=>K.after.all λe=> !Region.binds .any e || listed.getD e.on false
  | none=>true
theorem Og{listed:Array Bool}(h:Hw ops listed=true){j:Nat}{K:Oper}(O:ops[j]? =some K)(U:listed.getD j false=true):∀e∈K.after,Region.binds .any e=true->listed.getD e.on false=true:=by
 intro e he hb;have:=List.all_eq_true.1 h j (List.mem_range.2 (Array.getElem?_eq_some_iff.1 O).1);rw [U,O] at this;simp only [Bool.not_true,Bool.false_or] at this;have:=Array.all_eq_true'.1 this e he;rw [hb] at this;simpa using this
theorem Qq{listed:Array Bool}(Y:Hw ops listed=true){i:Nat}:∀(f j:Nat) (O:Oper),ops[j]? =some O->(∀e∈O.after,Region.binds .any e=true->listed.getD e.on false=true)->waits ops f j i=true->listed.getD i false=true∨∃x,ops[x]? =none/\listed.getD x false=true:=by
 intro f
 induction f with
 | zero=>intro j O _ _ h;cases h
 | succ f Z=>
  intro j O ac hd h;simp only [waits,ac] at h;obtain⟨e,he,K⟩:=Array.any_eq_true'.1 h;simp only [Bool.and_eq_true,Bool.or_eq_true,beq_iff_eq] at K;obtain⟨hb,K⟩:=K;have U:=hd e he hb;rcases K with rfl | K
  ·exact .inl U
  ·cases V:ops[e.on]? with
   | none=>exact .inr ⟨_,V,U⟩
   | some o=>exact Z e.on o V (λag al am=>Og Y V U ag al am) K
theorem JA.take{i:Nat}{oi:Oper}{w:Bool}{v:Value}(hi:ops[i]? =some oi)(b9:i<m)(ca:DG ops m=true)(cb:Region.noSelect ops=true)(cc:∀c,oi.op≠ .defer c):
  ∀(fuel:Nat) (listed:Array Bool) (T:Av_) (s:St),IB ops listed i oi=true->Hw ops listed=true->listed.size=ops.size->i∈Region.ready .any ops listed->s.q=false->Region.wanted oi (yielded ops T)=w->
   (w=true->∀s',s'.q=false->(∀x o,(Br D s).E x=some o->s'.E x=some o)->Yl P oi (BA T) s' v)->
   JA J Q b ds ops k cs m D fuel (A8 listed i) (CL T oi.dst (if w then v else undef)) s->JA J Q b ds ops k cs m D (fuel+1) listed T s:=by
 have aq:∀(j:Nat) (ac:Oper),ops[j]? =some ac->∀cs b,ac.op≠Op.select cs b:=λj ac h cs b=>Region.noSelect_spec cb j ac cs b h;intro fuel
 induction fuel with
 | zero=>?_
 | succ fuel a2=>?_
 all_goals
  intro listed T s bY bZ aw a3 a4 hw ay h;refine .inr ⟨λe=>(by rw [e] at a3;cases a3),a4,λj b0 ac O=>?_⟩;by_cases ap:j=i
  ·subst ap;obtain rfl:ac=oi:=by rw [hi] at O;exact(Option.some.inj O).symm
   refine⟨cc,λbe=>?_,λbi=>?_⟩
   ·rw [be] at hw;subst hw;exact h
   ·rw [bi] at hw;subst hw;refine DO _ (ay rfl (Br D s) a4 λ_ _ h=>h).out ?_ (λ_ _ h=>h);rintro b1 s' ⟨rfl,rfl⟩;rw [LA];exact h
  ·
   have b2:j∈Region.ready .any ops (A8 listed i):=ready_mono b0 ap;obtain⟨ag,U,b3,bn⟩:=mem_ready.1 b0;obtain rfl:U=ac:=by rw [O] at b3;exact(Option.some.inj b3).symm
   have bo:=(mem_ready.1 a3).1;have cd:(U.after.any λe=>Region.binds .any e&&e.on==i)=false:=by
    rw [Array.any_eq_false];intro e he K;simp only [Bool.and_eq_true,beq_iff_eq] at K;have:=bn _ (Array.getElem_mem he) K.1;rw [K.2] at this;have V:listed.getD i true=listed.getD i false∨listed.size<=i:=by
     rcases Nat.lt_or_ge i listed.size with q | q
     ·left;simp [Array.getD_eq_getD_getElem?,q]
     ·exact .inr q
    rcases V with V | V
    ·rw [bo,this] at V;cases V
    ·rw [Array.getD_eq_getD_getElem?,Array.getElem?_eq_none V] at this;simp at this
   have ce:oi.apart ops U=true:=by
    have az:j<ops.size:=(Array.getElem?_eq_some_iff.1 O).1;have:=List.all_eq_true.1 bY j (List.mem_range.2 az);simp only [Bool.or_eq_true,beq_iff_eq] at this;rcases this with(q | q) | q
    ·exact absurd q ap
    ·rw [ag] at q;cases q
    ·rw [O] at q;simp only [Bool.or_eq_true] at q;rw [cd] at q;exact q.resolve_left (by simp)
   obtain⟨a1,a5,a6⟩:=Oper.apart_spec ce;obtain⟨p1,p2⟩:=HY (ops:=ops) (T:=T) (v:=if w then v else undef) (aq j U O) a1
   first
    | exact absurd b2 (by rw [h.1];simp)
    | (
     rcases h with⟨cf,_⟩ | ⟨cv,_,h⟩
     ·
      exfalso
      have cg:¬j<m:=by
       intro az
       have:=List.all_eq_true.1 cf j (List.mem_range.2 az)
       have e2:(A8 listed i).getD j false=listed.getD j false:=getD_set_ne false (Ne.symm ap)
       rw [e2] at this
       have V:listed.getD j true=true:=by
        rcases Nat.lt_or_ge j listed.size with q | q
        ·simp [Array.getD_eq_getD_getElem?,q] at this ⊢;exact this
        ·simp [Array.getD_eq_getD_getElem?,Array.getElem?_eq_none q] at this
       rw [ag] at V;cases V
      have az:j<ops.size:=(Array.getElem?_eq_some_iff.1 O).1
      have:=List.all_eq_true.1 ca j (List.mem_range.2 az)
      simp only [Bool.or_eq_true,decide_eq_true_eq] at this
      have:=List.all_eq_true.1 (this.resolve_left cg) i (List.mem_range.2 b9)
      rcases Qq bZ _ j U O (λe he hb=>bn e he hb) this with q | ⟨x,Y,Z⟩
      ·have ci:i<listed.size:=by rw [aw];exact(Array.getElem?_eq_some_iff.1 hi).1
       simp [Array.getD_eq_getD_getElem?,ci] at q bo
       rw [bo] at q;cases q
      ·have:¬x<listed.size:=by rw [aw];intro K;simp [K] at Y
       simp [Array.getD_eq_getD_getElem?,this] at Z
     ·obtain⟨hd,be,bi⟩:=h j b2 U O
      have a7:A8 (A8 listed i) j=A8 (A8 listed j) i:=by
       unfold A8;exact Array.setIfInBounds_comm _ _ (Ne.symm ap)
      have a8:i∈Region.ready .any ops (A8 listed j):=ready_mono a3 (Ne.symm ap)
      have a9:IB ops (A8 listed j) i oi=true:=by
       refine List.all_eq_true.2 λx K=>?_
       have:=List.all_eq_true.1 bY x K
       simp only [Bool.or_eq_true,beq_iff_eq] at this ⊢
       rcases this with(q | q) | q
       ·exact .inl (.inl q)
       ·left;right
        by_cases e:j=x
        ·subst e;rw [ag] at q;cases q
        ·rw [A8,getD_set_ne true e];exact q
       ·exact .inr q
      have bb:(A8 listed j).size=ops.size:=by unfold A8;simpa using aw
      have bd:Hw ops (A8 listed j)=true:=by
       refine List.all_eq_true.2 λx K=>?_
       cases bv:ops[x]? with
       | none=>simp
       | some ck=>
        simp only [Bool.or_eq_true,Bool.not_eq_true']
        by_cases e:j=x
        ·subst e
         obtain rfl:ck=U:=by rw [O] at bv;exact(Option.some.inj bv).symm
         right
         refine Array.all_eq_true'.2 λe he=>?_
         cases hb:Region.binds .any e with
         | false=>simp
         | true=>
          have:=bn e he hb
          by_cases e2:j=e.on
          ·rw [← e2] at this
           have bw:j<listed.size:=by rw [aw];exact(Array.getElem?_eq_some_iff.1 O).1
           simp [Array.getD_eq_getD_getElem?,bw] at this ag
           rw [ag] at this;cases this
          ·rw [A8,getD_set_ne false e2];simpa using this
        ·cases b4:(A8 listed j).getD x false with
         | false=>exact .inl rfl
         | true=>
          right
          have cm:listed.getD x false=true:=by rw [A8,getD_set_ne false e] at b4;exact b4
          refine Array.all_eq_true'.2 λbx he=>?_
          cases hb:Region.binds .any bx with
          | false=>simp
          | true=>
           have:=Og bZ bv cm bx he hb
           by_cases e2:j=bx.on
           ·rw [← e2] at this
            have bw:j<listed.size:=by rw [aw];exact(Array.getElem?_eq_some_iff.1 O).1
            simp [Array.getD_eq_getD_getElem?,bw] at this ag
            rw [ag] at this;cases this
           ·rw [A8,getD_set_ne false e2];simpa using this
      refine⟨hd,λcn=>?_,λco=>?_⟩
      ·have:=be (by rw [p2];exact cn)
       rw [a7,IW a5] at this
       obtain⟨Y,Z⟩:=HY (ops:=ops) (T:=T) (d:=U.dst) (v:=undef) (o:=oi) (aq i oi hi) a6
       exact a2 _ _ _ a9 bd bb a8 a4 (by rw [Z];exact hw) (λal s' cp bz=>by unfold Yl;rw [Y];exact(ay al s' cp bz).out) this
      ·have b5:=NO _ (bi (by rw [p2];exact co))
       rw [p1] at b5
       refine DO _ b5 ?_ (λ_ _ h=>h)
       rintro b1 s' ⟨K,bz,cq⟩
       have b6:=Qy (D:=D) bz
       have b7:(Cn D s s').q=false:=by show s'.q=false;rw [cq];exact a4
       cases b1 with
       | value u=>
        simp only at K ⊢
        rw [a7,IW a5] at K
        obtain⟨Y,Z⟩:=HY (ops:=ops) (T:=T) (d:=U.dst) (v:=u) (o:=oi) (aq i oi hi) a6
        exact a2 _ _ _ a9 bd bb a8 b7 (by rw [Z];exact hw) (λal s2 a0 am=>by unfold Yl;rw [Y];exact(ay al s2 a0 (by rw [b6] at am;exact am)).out) K
       | skip=>
        simp only at K ⊢
        rw [a7,IW a5] at K
        obtain⟨Y,Z⟩:=HY (ops:=ops) (T:=T) (d:=U.dst) (v:=undef) (o:=oi) (aq i oi hi) a6
        exact a2 _ _ _ a9 bd bb a8 b7 (by rw [Z];exact hw) (λal s2 a0 am=>by unfold Yl;rw [Y];exact(ay al s2 a0 (by rw [b6] at am;exact am)).out) K
       | enter f args=>
        obtain⟨R,cr,ct⟩:=K
        refine⟨R,cr,λu cu hu=>?_⟩
        obtain⟨b8,r1,r2⟩:=ct u cu hu
        refine⟨b8,r1,?_⟩
        rw [a7,IW a5] at r2
        obtain⟨Y,Z⟩:=HY (ops:=ops) (T:=T) (d:=U.dst) (v:=u) (o:=oi) (aq i oi hi) a6
        exact a2 _ _ _ a9 bd bb a8 b8 (by rw [Z];exact hw) (λal s2 a0 am=>by unfold Yl;rw [Y];exact(ay al s2 a0 (λx o K=>am x o (r1 x o K))).out) r2
       | _=>exact K.elim)
end
section
variable (J:Judge P)(Q:Gs_)(b:Frame)(n:Nat)(ds:Ld_)(ops:Ao_)(k:Li_)(cs:Lf_)(m:Nat)(D:Nat->Bool)
def AO(fuel:Nat)(listed:Array Bool)(L:Env)(s:St):Prop:=∀T,Has n L T->JA J Q b ds ops k cs m D fuel listed T s
end
def C3:Nat->Bool:=λ_=>false
variable {D:Nat->Bool}{listed:Array Bool}
section
variable {b:Frame}{n:Nat}{m fuel:Nat}
theorem OA(m:Nat)(D:Nat->Bool){id:Nat}(K:s.q=false)(hm:P.follows .mixedOrders=true)(O:(b.kind != .early)=true)(h:AO J Q b n ds ops k cs m D ops.size (Array.replicate ops.size false) L s):JL J Q b n L ds (.code (.region id ops true)::k) cs s:=
 SV K hm λt T U=>Xs (by simpa using O) ops.size t _ T s (h T U)
theorem Wc{i:Nat}{oi:Oper}{v:Value}(hi:ops[i]? =some oi)(U:decide (i<m)=true)(V:DG ops m=true)(Y:Region.noSelect ops=true)(O:(!DW oi.op)=true)(Z:IB ops listed i oi=true)(ac:Hw ops listed=true)(ag:(listed.size==ops.size)=true)(al:(Region.ready .any ops listed).contains i=true)(am:s.q=false)
  (hw:AR L ops oi=some true) (ap:Bg n oi.dst=true) (aq:∀ρ,EP L ρ->∀s',s'.q=false->(∀x o,(Br D s).E x=some o->s'.E x=some o)->Yl P oi ρ s' v)
  (h:AO J Q b n ds ops k cs m D fuel (A8 listed i) (As L oi.dst v) s):AO J Q b n ds ops k cs m D (fuel+1) listed L s:=λT K=>by
 refine JA.take (w:=true) (v:=v) hi (by simpa using U) V Y (λc aw=>by rw [aw] at O;simp [DW] at O) fuel listed T s Z ac (by simpa using ag) (by simpa using al) am (B6 K hw) (λ_ s' ay az=>aq _ K.F2 s' ay az) ?_
 exact h _ (K.put ap v)
theorem Wh{i:Nat}{oi:Oper}(hi:ops[i]? =some oi)(U:decide (i<m)=true)(V:DG ops m=true)(Y:Region.noSelect ops=true)(K:(!DW oi.op)=true)(Z:IB ops listed i oi=true)(ac:Hw ops listed=true)(ag:(listed.size==ops.size)=true)(al:(Region.ready .any ops listed).contains i=true)(am:s.q=false)
  (hw:AR L ops oi=some false) (ap:Bg n oi.dst=true)
  (h:AO J Q b n ds ops k cs m D fuel (A8 listed i) (As L oi.dst undef) s):AO J Q b n ds ops k cs m D (fuel+1) listed L s:=λT O=>by
 refine JA.take (w:=false) (v:=undef) hi (by simpa using U) V Y (λc aq=>by rw [aq] at K;simp [DW] at K) fuel listed T s Z ac (by simpa using ag) (by simpa using al) am (B6 O hw) (λe=>by cases e) ?_
 exact h _ (O.put ap undef)
theorem Rz(ag:s.q=false)(al:Region.ready .any ops listed≠ [])
  (h:∀i∈Region.ready .any ops listed,∀o,ops[i]? =some o->(!DW o.op)=true/\Bg n o.dst=true/\∃w,AR L ops o=some w/\
   (w=false->AO J Q b n ds ops k cs m D fuel (A8 listed i) (As L o.dst undef) s)/\
   (w=true->∀ρ,EP L ρ->lp P (execOp ρ o) (Br D s) (λZ s'=>match Z with
    | .value v=>AO J Q b n ds ops k cs m D fuel (A8 listed i) (As L o.dst v) (Cn D s s')
    | .skip=>AO J Q b n ds ops k cs m D fuel (A8 listed i) (As L o.dst undef) (Cn D s s')
    | .enter f args=>∃R,EF J f args (Cn D s s') R/\∀v K,R v K->K.q=false/\(∀x o,(Br D s).E x=some o->(Br D K).E x=some o)/\AO J Q b n ds ops k cs m D fuel (A8 listed i) (As L o.dst v) K
    | _=>False) (λ_ _=>False))):
  AO J Q b n ds ops k cs m D (fuel+1) listed L s:=λT O=>by
 refine .inr ⟨al,ag,λi hi o am=>?_⟩
 obtain⟨ac,U,w,hw,ap,aq⟩:=h i hi o am
 have V:=B6 O hw
 refine⟨λc aw=>by rw [aw] at ac;simp [DW] at ac,λe=>?_,λe=>?_⟩
 ·rw [e] at V
  exact ap V.symm _ (O.put U undef)
 ·rw [e] at V;refine DO _ (aq V.symm _ O.F2) ?_ (λ_ _ h=>h);intro Z s' Y;cases Z with
  | value v=>exact Y _ (O.put U v)
  | skip=>exact Y _ (O.put U undef)
  | enter f args=>
   obtain⟨R,ay,az⟩:=Y;exact⟨R,ay,λv K a0=>let ⟨a,b,c⟩:=az v K a0;⟨a,b,c _ (O.put U v)⟩⟩
  | _=>exact Y.elim
theorem AO.one{i:Nat}{o:Oper}(Z:s.q=false)(V:Region.ready .any ops listed= [i])(hi:ops[i]? =some o)(O:(!DW o.op&&Bg n o.dst)=true)(hw:AR L ops o=some true)
  (h:∀ρ,EP L ρ->lp P (execOp ρ o) (Br D s) (λac s'=>match ac with
    | .value v=>AO J Q b n ds ops k cs m D fuel (A8 listed i) (As L o.dst v) (Cn D s s')
    | .skip=>AO J Q b n ds ops k cs m D fuel (A8 listed i) (As L o.dst undef) (Cn D s s')
    | .enter f args=>∃R,EF J f args (Cn D s s') R/\∀v K,R v K->K.q=false/\(∀x o,(Br D s).E x=some o->(Br D K).E x=some o)/\AO J Q b n ds ops k cs m D fuel (A8 listed i) (As L o.dst v) K
    | _=>False) (λ_ _=>False)):
  AO J Q b n ds ops k cs m D (fuel+1) listed L s:=by
 simp only [Bool.and_eq_true] at O;refine Rz Z (by rw [V];simp) λj U o' Y=>?_;rw [V] at U;simp at U;subst U;obtain rfl:o'=o:=by rw [hi] at Y;exact(Option.some.inj Y).symm
 exact⟨O.1,O.2,true,hw,λe=>(by cases e),λ_=>h⟩
theorem AO.call{i:Nat}{d:Option Tmp}{f:FuncId}{args:Array Operand}{ats:Array TypeId}{ty:TypeId}{p:String}{af:Ae_}{g:On_}{vs:Lv_}{R:Value->St->Prop}(U:s.q=false)(V:Region.ready .any ops listed= [i])
  (Y:ops[i]? =some ⟨d,.call ⟨.value (.func f),args,ats⟩,ty,p,af,g⟩) (Z:Bg n d=true) (hw:AR L ops ⟨d,.call ⟨.value (.func f),args,ats⟩,ty,p,af,g⟩=some true) (hb:Du P f=true) (ac:evs L args.toList=some vs)
  (ag:EF J f vs.toArray s R) (h:∀v K,R v K->K.q=false/\(∀x o,(Br D s).E x=some o->(Br D K).E x=some o)/\AO J Q b n ds ops k cs m D fuel (A8 listed i) (As L d v) K):
  AO J Q b n ds ops k cs m D (fuel+1) listed L s:=by
 refine AO.one U V Y (by simp [DW,Z]) hw λρ O=>?_;have al:args.map ρ=vs.toArray:=by
  rw [← FY O ac];apply Array.ext';simp
 have am:ρ (.func f)= .func (.func f) #[] #[]:=O _ _ rfl;simp only [execOp,resolve,bind,Sem.bind,Deferred.ofValue,am,pure,invoke];have e: #[]++args.map ρ++ #[]=vs.toArray:=by rw [al];simp
 rw [e];refine IP hb ?_;rw [LA];exact⟨R,ag,h⟩
theorem AO.leaf{tail:List Nat}(K:Pz m listed=true)(hgo:∀t,Region.linearise.go .any ops (fuel+1) t listed []=tail)(h:JL J Q b n L ds (.inRegion ops tail::k) cs s):AO J Q b n ds ops k cs m D (fuel+1) listed L s:=λT O=>
 .inl ⟨K,λt=>by rw [hgo t];exact h T O⟩
theorem AO.fin(K:Region.ready .any ops listed= [])(h:JL J Q b n L ds k cs s):AO J Q b n ds ops k cs m D 0 listed L s:=λT O=>⟨K,JL.done h T O⟩
theorem Zn{listed:Array Bool}{i:Nat}{tail:List Nat}{fuel:Nat}(K:Region.ready .any ops listed= [i])(h:∀t,Region.linearise.go .any ops fuel t (A8 listed i) []=tail)(t:Nat):Region.linearise.go .any ops (fuel+1) t listed []=i::tail:=by
 simp only [Region.linearise.go];change (match(Region.ready .any ops listed)[t % (Region.ready .any ops listed).length]? with
  | some i=>Region.linearise.go .any ops fuel (t / (Region.ready .any ops listed).length) (listed.setIfInBounds i true) [i]
  | none=> [].reverse)=_
 rw [K];simp only [List.length_singleton,Nat.mod_one,List.getElem?_cons_zero];rw [linearise_go_acc];have:=h (t / 1);unfold A8 at this;rw [this];rfl
theorem Xo{i:Nat}{rest:List Nat}{d:Option Tmp}{f:FuncId}{args:Array Operand}{ats:Array TypeId}{ty:TypeId}{p:String}{af:Ae_}{g:On_}{vs:Lv_}{R:Value->St->Prop}
  (U:ops[i]? =some ⟨d,.call ⟨.value (.func f),args,ats⟩,ty,p,af,g⟩) (hw:AR L ops ⟨d,.call ⟨.value (.func f),args,ats⟩,ty,p,af,g⟩=some true) (K:((b.kind != .early)&&Bg n d)=true) (hb:Du P f=true)
  (V:evs L args.toList=some vs) (Y:EF J f vs.toArray s R) (Z:∀v s',R v s'->JL J Q b n (As L d v) ds (.inRegion ops rest::k) cs s'):
  JL J Q b n L ds (.inRegion ops (i::rest)::k) cs s:=λT O=>by
 simp only [Bool.and_eq_true] at K
 have ac:args.map (BA T)=vs.toArray:=by
  rw [← FY O.F2 V];apply Array.ext';simp
 refine Judge.oper U (B6 O hw) (by simpa using K.1) (.inr λc ag=>by cases ag) ?_;have hd:lp P (execOp (BA T) ⟨d,.call ⟨.value (.func f),args,ats⟩,ty,p,af,g⟩) s (upon J Q b T ds ops i rest k cs d) (K0 J Q b T ds ops i rest k cs):=by
  simp only [execOp,resolve,bind,Sem.bind,Deferred.ofValue,BA,pure,invoke];have e: #[]++args.map (BA T)++ #[]=vs.toArray:=by rw [ac];simp
  rw [e];refine IP hb (Y Q _ cs λv s' al=>?_);rw [Gf (o:=⟨d,.call ⟨.value (.func f),args,ats⟩,ty,p,af,g⟩) _ _ _ _ _ U];exact Z v s' al _ (O.put K.2 v)
 exact hd
theorem EF.enter{f:FuncId}{fn:Func}{c:Code}{vs:Lv_}{R:Value->St->Prop}(V:P.funcs[f]? =some fn)(hb:fn.body=some c)(ag:vs.length<=fn.ntmps)
  (h:∀(Q:Gs_) (K:Frame) (cs:Lf_),(∀v s',R v s'->J.ok Q (G (K.finish v) cs) s')->JL J Q (base f) fn.ntmps (F1 0 vs) [] [.code c] (K::cs) s):EF J f vs.toArray s R:=λQ K cs Y=>by
 have he:Frame.enter P f vs.toArray .normal=fr (base f) (vs.toArray++Array.replicate (fn.ntmps - vs.length) undef) [] [.code c]:=by
  simp [Frame.enter,fr,V,hb,base];rfl
 rw [he];refine h Q K cs Y _ ⟨by simp;omega,λt v Z=>?_⟩;obtain⟨_,O⟩:=Jj Z;have ac:t<vs.length:=by
  rcases Nat.lt_or_ge t vs.length with U | U
  ·exact U
  ·simp at O;have:=(List.getElem?_eq_some_iff.1 O).1;omega
 rw [Array.getD_eq_getD_getElem?,Array.getElem?_append_left (by simpa using ac)];simp at O;simp [O]
end
variable {E':LH}{B0:List (Nat×Obj)}
section
variable {b:Frame}{n:Nat}
theorem SQ(O:s.q=false)(h:(∃w,Fits s w)->JL J Q b n L ds k cs s):JL J Q b n L ds k cs s:=λT U=>by
 by_cases K:∃w,Fits s w
 ·exact h K T U
 ·exact J.step ⟨V,λw f=>absurd ⟨w,f⟩ K,λe=>by subst e;cases O⟩
theorem QO{x:Nat}:∀{B:List (Nat×Obj)},(∃p∈B,p.1=x)->Bl B H x≠none
 | [],⟨p,K,_⟩=>by cases K
 | (c,o)::B,⟨p,K,e⟩=>by
  simp only [Bl]
  split
  ·simp
  ·rename_i O;rcases List.mem_cons.1 K with q | q
   ·subst q;exact absurd e.symm O
   ·exact QO ⟨p,q,e⟩
theorem Nd.grow(U:Nd E H B)(hd:∀x,E' x≠none->Bl B H x=none):Nd E' H B:=by
 have key:∀{C:List (Nat×Obj)},Nd E H C->(∀p∈C,p∈B)->Nd E' H C:=by
  intro C
  induction C with
  | nil=>intro _ _;trivial
  | cons p C V=>
   obtain⟨c,o⟩:=p;intro hC O;refine⟨?_,hC.2.1,hC.2.2.1,V hC.2.2.2 λp K=>O p (List.mem_cons_of_mem _ K)⟩;cases Y:E' c with
   | none=>rfl
   | some u=>exact absurd (hd c (by rw [Y];simp)) (QO ⟨(c,o),O _ (by simp),rfl⟩)
 exact key U λp K=>K
def NP(E:LH)(K:Nat)(v:Value)(n:Nat)(xs:Lv_):Prop:=
 ∃a c,v= .slice a n c/\n<=c/\xs.length=n*K/\(n=0∨∃bk off f e fr,a=some ⟨bk,off,none⟩/\E bk=some (.cells f e fr)/\∀j w,xs[j]? =some w->f[off+j]? =some w)
theorem NP.nil{K:Nat}:NP E K (.slice none 0 0) 0 []:=⟨none,0,V,Nat.le_refl _,by simp,.inl V⟩
def GS(e:TypeId)(K:Nat)(a:Option Addr)(l c:Nat)(blk:List (Nat×Obj))(xs:Lv_):Prop:=
 (a=none/\l=0/\c=0/\blk= []/\xs= [])∨∃bk f,a=some ⟨bk,0,none⟩/\blk= [(bk,.cells f e (0,0))]/\f.size=c*K/\l<=c/\xs=f.toList.take (l*K)
theorem GS.nil{e:TypeId}{K:Nat}:GS e K none 0 0 [] []:= .inl ⟨V,V,V,V,V⟩
theorem GS.length{e:TypeId}{K:Nat}{a:Option Addr}{l c:Nat}{blk:List (Nat×Obj)}{xs:Lv_}(h:GS e K a l c blk xs):xs.length=l*K:=by
 rcases h with⟨_,rfl,_,_,rfl⟩ | ⟨bk,f,_,_,O,U,rfl⟩
 ·simp
 ·have:l*K<=c*K:=Nat.mul_le_mul_right _ U;simp [O,Nat.min_eq_left this]
theorem UE{t e:TypeId}{v:Value}{Q:Value->St->Prop}{X:Halt->St->Prop}{z:Value}(O:P.underlying t=some (.slice e))(U:Bo P e=some v.cells.size)(V:zeroOf P e=some z)(al:z.cells.size=v.cells.size)(am:0<v.cells.size)(ap:v.cells.size<=64)
  (Y:Nd E H B) (k:∀r,Nd E H (B++ [(r,.cells v.cells e (0,0))])->Q (.slice (some ⟨r,0,none⟩) 1 1) (mk E H (B++ [(r,.cells v.cells e (0,0))]))):lp P (Instr.buildSlice t 1 #[(0,v)]) (mk E H B) Q X:=by
 unfold Instr.buildSlice;refine Ar _ _ (Ce O ?_);refine Ar _ _ (EJ U ?_);rw [if_neg (by omega),if_neg (by omega)];refine Ar (x:=zeroValue e) _ (GQ V ?_);have Z:Instr.fill (λi=>some (i*v.cells.size,v.cells.size)) ((Array.range (1*v.cells.size)).map λi=>z.cells[i % z.cells.size]!) [(0,v)]=some v.cells:=by
  simp only [Instr.fill,Array.size_map,Array.size_range,Nat.one_mul,Nat.zero_mul];rw [if_neg (by simp)];congr 1;apply Array.ext_getElem?;intro j;have key:∀(l:Lv_) (st:Nat) (c:Av_),st+l.length<=c.size->∀j,(List.foldl (λcs (p:Value×Nat)=>cs.setIfInBounds (0+p.2) p.1) c (l.zipIdx st))[j]? =if st<=j/\j<st+l.length then l[j - st]? else c[j]? :=by
   intro l
   induction l with
   | nil=>intro st c _ j;simp;omega
   | cons x l ac=>
    intro st c aq j;simp only [List.zipIdx_cons,List.foldl_cons,List.length_cons] at*;rw [ac (st+1) _ (by simp;omega) j];simp only [Nat.zero_add];by_cases ag:j=st
    ·subst ag;rw [if_neg (by omega),if_pos (by omega)];rw [Nat.sub_self,List.getElem?_cons_zero,Array.getElem?_setIfInBounds_self_of_lt (by omega)]
    ·by_cases e2:st+1<=j/\j<st+1+l.length
     ·rw [if_pos e2,if_pos (by omega)];have:j - st=(j - (st+1))+1:=by omega
      rw [this];simp
     ·rw [if_neg e2,if_neg (by omega),Array.getElem?_setIfInBounds_ne (by omega)]
  have:=key v.cells.toList 0 ((Array.range v.cells.size).map λi=>z.cells[i % z.cells.size]!) (by simp) j;rw [← Array.foldl_toList,Array.toList_zipIdx,this];by_cases K:j<v.cells.size
  ·simp [K]
  ·simp [K]
 rw [HV];simp only [Z];exact Ar _ _ (IU Y k)
end
section
variable {b:Frame}{n:Nat}
theorem Lr{ρ:Operand->Value}{d:Option Tmp}{x y:Operand}{ats:Array TypeId}{ty:TypeId}{p:String}{af:Ae_}{g:On_}:
  execOp ρ ⟨d,.call ⟨.builtin .append,#[x,y],ats⟩,ty,p,af,g⟩=(do pure (Next.value (← Builtin.append_ ats ty #[ρ x,ρ y]))):=by
 simp [execOp,resolve,invoke,builtin,bind,Sem.bind,pure]
theorem UK{ρ:Operand->Value}{d:Option Tmp}{y:Operand}{t ty:TypeId}{p:String}{af:Ae_}{g:On_}:
  execOp ρ ⟨d,.buildSlice t 1 #[(0,y)],ty,p,af,g⟩=(do pure (Next.value (← Instr.buildSlice t 1 #[(0,ρ y)]))):=by
 simp [execOp]
theorem YR{L:Env}{d1:Tmp}{w:Value}:ev (As L (some d1) w) (.tmp d1)=some w:=by
 simp [As,ev,look]
theorem H4{α:Type}(l r:List α)(x y:α):(l++x::r).set l.length y=l++y::r:=by simp
theorem J7{e t t1:TypeId}{V ap l c m:Nat}{a:Option Addr}{blk:List (Nat×Obj)}{xs ys:Lv_}{i:Nat}{rest:List Nat}{d:Option Tmp}{x y:Operand}{ats:Array TypeId}{ty:TypeId}{p:String}{af:Ae_}{g:On_}{z:Value}{ax:Option Addr}{cx:Nat}{B1:List (Nat×Obj)}
  (a5:ops[i]? =some ⟨d,.call ⟨.builtin .append,#[x,y],ats⟩,ty,p,af,g⟩) (hw:AR L ops ⟨d,.call ⟨.builtin .append,#[x,y],ats⟩,ty,p,af,g⟩=some true) (a6:BJ b n ⟨d,.call ⟨.builtin .append,#[x,y],ats⟩,ty,p,af,g⟩=true)
  (a7:ev L x=some (.slice a l c)) (a8:ev L y=some (.slice ax m cx)) (a9:ats[0]? =some t) (bb:ats[1]? =some t1) (bd:P.underlying t=some (.slice e)) (be:P.underlying t1=some (.slice e)) (bi:Bo P e=some V) (hb:FB P e=some ap) (bn:zeroOf P e=some z) (bo:z.cells.size=V)
  (bv:0<ap) (bw:ap<=64) (b5:0<m) (bx:l+m<=2 ^ 40) (bz:∀w∈ys,B3 w=true) (aq:GS e V a l c blk xs) (bY:Nd E H (B0++blk++B1)) (bZ:HF (mk E H (B0++blk++B1)) (.slice ax m cx) V ys)
  (h:∀a3 ac aw,GS e V a3 (l+m) ac aw (xs++ys)->Nd E H (B0++aw)->JL J Q b n (As L d (.slice a3 (l+m) ac)) ds (.inRegion ops rest::k) cs (mk E H (B0++aw))):
  JL J Q b n L ds (.inRegion ops (i::rest)::k) cs (mk E H (B0++blk++B1)):=by
 refine JL.op a5 hw a6 λρ a4=>?_;rw [Lr,a4 x _ a7,a4 y _ a8];have b0:NA (B0++blk++B1) B0.length e V a l c xs:=by
  rcases aq with⟨O,Z,ag,ay,al⟩ | ⟨bk,f,O,Z,ag,ay,al⟩
  ·exact .inl ⟨O,Z,ag,al⟩
  ·refine .inr ⟨bk,f,O,?_,ag,ay,al⟩;subst Z;simp
 have hlen:=aq.length;refine Ar _ _ (Ox (pl:=B0.length) a9 bb be bd bi hb bn bo bY b0 bZ bz bv bx bw ?_ ?_ ?_)
 ·
  intro bk f K am b6 b7 b1 az a0 Y;rcases aq with⟨O,_⟩ | ⟨U,f0,O,Z,ag,ay,al⟩
  ·rw [O] at am;cases am
  ·subst Z;have b2:U=bk:=by rw [O] at am;simpa using am
   subst b2;have b3:(B0++ [(U,Obj.cells f0 e (0,0))]++B1).set B0.length (U,.cells K e (0,0))=B0++ [(U,.cells K e (0,0))]++B1:=by
    rw [List.append_assoc,List.append_assoc];exact H4 _ _ _ _
   rw [b3] at Y ⊢;have a1:Nd E H (B0++ [(U,.cells K e (0,0))]):=Nd.left Y;refine JL.drop (B0++ [(U,.cells K e (0,0))]) (λp a2=>?_) Y (h a c _ (.inr ⟨U,K,O,rfl,az,b1,a0.symm⟩) a1);exact List.mem_iff_getElem?.1 (List.mem_append_left _ a2)
 ·intro _ hm;omega
 ·
  intro r K ac b4 az a0 Y;have a1:Nd E H (B0++ [(r,.cells K e (0,0))]):=Nd.pick Y;refine JL.drop (B0++ [(r,.cells K e (0,0))]) (λp a2=>?_) Y (h (some ⟨r,0,none⟩) ac _ (.inr ⟨r,K,rfl,rfl,az,b4,a0.symm⟩) a1);refine List.mem_iff_getElem?.1 ?_;rcases List.mem_append.1 a2 with q | q
  ·simp [q]
  ·exact List.mem_append_right _ q
 where
  Nd.left {E H : LH} {A C : List (Nat × Obj)} (h : Nd E H (A ++ C)) : Nd E H A := by
    induction A with
    | nil => trivial
    | cons p A ih =>
      obtain ⟨c, o⟩ := p
      obtain ⟨h1, h2, h3, h4⟩ := h
      exact ⟨h1, h2, λq hq => h3 q (List.mem_append_left _ hq), ih h4⟩
  Nd.pick {E H : LH} {A C F : List (Nat × Obj)} {x : Nat × Obj} (h : Nd E H (A ++ C ++ F ++ [x])) : Nd E H (A ++ [x]) := by
    induction A with
    | nil =>
      have : ∀ (D : List (Nat × Obj)), Nd E H (D ++ [x]) -> Nd E H [x] := by
        intro D
        induction D with
        | nil => exact λh => h
        | cons p D ih => obtain ⟨c, o⟩ := p; exact λh => ih h.2.2.2
      exact this _ h
    | cons p A ih =>
      obtain ⟨c, o⟩ := p
      obtain ⟨h1, h2, h3, h4⟩ := h
      refine ⟨h1, h2, λq hq => h3 q ?_, ih h4⟩
      rcases List.mem_append.1 hq with hq | hq
      . simp [hq]
      . exact List.mem_append_right _ hq
theorem WC{K r:Nat}{e:TypeId}{v:Value}{A:List (Nat×Obj)}(O:v.cells.size=K)(U:Nd E H (A++ [(r,.cells v.cells e (0,0))])):
  HF (mk E H (A++ [(r,.cells v.cells e (0,0))])) (.slice (some ⟨r,0,none⟩) 1 1) K v.cells.toList:=by
 refine⟨.inl rfl,by simp [O],Nat.le_refl _,λj w V=>?_⟩;simp only [Nat.zero_add];refine RX (i:=A.length) U (c:=v.cells) (e:=e) (f:=(0,0)) (by simp) ?_;simpa using V
theorem Vu{e t t1 t2:TypeId}{K O l c:Nat}{a:Option Addr}{blk:List (Nat×Obj)}{xs:Lv_}{i ag:Nat}{rest:List Nat}{d1:Tmp}{d:Option Tmp}{x y:Operand}{ats:Array TypeId}{ty U:TypeId}{p V:String}{af Y:Ae_}{g g':On_}{z v:Value}
  (az:ops[i]? =some ⟨some d1,.buildSlice t2 1 #[(0,y)],U,V,Y,g'⟩) (hw:AR L ops ⟨some d1,.buildSlice t2 1 #[(0,y)],U,V,Y,g'⟩=some true) (a0:BJ b n ⟨some d1,.buildSlice t2 1 #[(0,y)],U,V,Y,g'⟩=true)
  (a1:ops[ag]? =some ⟨d,.call ⟨.builtin .append,#[x,.tmp d1],ats⟩,ty,p,af,g⟩) (a2:∀w,AR (As L (some d1) w) ops ⟨d,.call ⟨.builtin .append,#[x,.tmp d1],ats⟩,ty,p,af,g⟩=some true) (a3:BJ b n ⟨d,.call ⟨.builtin .append,#[x,.tmp d1],ats⟩,ty,p,af,g⟩=true)
  (a4:∀w,ev (As L (some d1) w) x=some (.slice a l c)) (a5:ev L y=some v) (a6:ats[0]? =some t) (a7:ats[1]? =some t1) (a8:P.underlying t=some (.slice e)) (a9:P.underlying t1=some (.slice e)) (bb:P.underlying t2=some (.slice e)) (al:Bo P e=some K) (hb:FB P e=some O) (am:zeroOf P e=some z) (ap:z.cells.size=K)
  (bd:0<O) (be:O<=64) (Z:v.cells.size=K) (bx:0<K) (bz:K<=64) (bi:l+1<=2 ^ 40) (bn:∀w∈v.cells.toList,B3 w=true) (bo:GS e K a l c blk xs) (bv:Nd E H (B0++blk))
  (h:∀w aq aw ac,GS e K aq (l+1) aw ac (xs++v.cells.toList)->Nd E H (B0++ac)->JL J Q b n (As (As L (some d1) w) d (.slice aq (l+1) aw)) ds (.inRegion ops rest::k) cs (mk E H (B0++ac))):
  JL J Q b n L ds (.inRegion ops (i::ag::rest)::k) cs (mk E H (B0++blk)):=by
 refine JL.op az hw a0 λρ bw=>?_;rw [UK,bw y _ a5];refine Ar _ _ (UE (z:=z) (v:=v) bb (by rw [Z];exact al) am (by rw [Z];exact ap) (by omega) (by omega) bv λr ay=>?_);refine J7 (B1:= [(r,.cells v.cells e (0,0))]) (m:=1) (cx:=1) (ax:=some ⟨r,0,none⟩) (y:= .tmp d1) (x:=x) (ys:=v.cells.toList) (l:=l) (c:=c) (a:=a) (blk:=blk) (xs:=xs) a1 (a2 _) a3 (a4 _) YR a6 a7 a8 a9 al hb am ap bd be (by omega) bi bn bo ay ?_ (h _);exact WC Z ay
theorem U5{e:TypeId}{K l c:Nat}{a:Option Addr}{blk:List (Nat×Obj)}{xs:Lv_}{todo:Li_}(Z:GS e K a l c blk xs)(U:Nd E H (B0++blk))
  (h:∀E',Le E E'->NP E' K (.slice a l c) l xs->Nd E' H B0->JL J Q b n L ds todo cs (mk E' H B0)):JL J Q b n L ds todo cs (mk E H (B0++blk)):=by
 rcases Z with⟨rfl,rfl,rfl,rfl,rfl⟩ | ⟨bk,f,rfl,rfl,ac,V,rfl⟩
 ·simp only [List.append_nil] at U ⊢;exact h E (Le.refl _) .nil U
 ·have ag:(B0++ [(bk,Obj.cells f e (0,0))])[B0.length]? =some (bk,Obj.cells f e (0,0)):=by simp
  refine JL.freeze B0.length U ag λE' hle al Y=>?_;have am:(B0++ [(bk,Obj.cells f e (0,0))]).eraseIdx B0.length=B0:=by rw [List.eraseIdx_append_of_length_le (Nat.le_refl _)];simp
  rw [am] at Y ⊢;refine h E' hle ⟨_,c,rfl,V,?_,.inr ⟨bk,0,f,e,(0,0),rfl,al,λj w O=>?_⟩⟩ Y
  ·have:l*K<=c*K:=Nat.mul_le_mul_right _ V;simp [ac,Nat.min_eq_left this]
  ·rw [List.getElem?_take] at O;split at O
   ·simpa using O
   ·cases O
end
abbrev iV(n:Int):Value:= .int .i64 n
variable {c:Nat}
section
variable {x:Operand}{a:Nat}
end
theorem O1{P:Program}{t:TypeId}{K:TypeInfo}(h:P.types[t]? =some K):P.info? t=some K:=by
 have:=(Array.getElem?_eq_some_iff.1 h).1;unfold Tables.info?;rw [if_pos this,h]
theorem AJ{P:Program}{t:TypeId}{K:TypeInfo}(h:P.types[t]? =some K):Bo P t=some K.size:=by simp [Bo,O1 h]
theorem Dt{P:Program}{t:TypeId}{K:TypeInfo}(h:P.types[t]? =some K):FB P t=some K.bytes:=by simp [FB,O1 h]
theorem C5{P:Program}{t:TypeId}{K:TypeInfo}(h:P.types[t]? =some K):zeroOf P t=K.zero:=by simp [zeroOf,O1 h]
def Y8:TypeDesc->Bool | .struct _=>true | .array _ _=>true | _=>false
theorem Cm{P:Program}{t:TypeId}{d:TypeDesc}(h:P.underlying t=some d):Dr P t=some (Y8 d):=by
 unfold Dr;rw [h];cases d <;> rfl
theorem A1{P:Program}{f:FuncId}{fn:Func}(h:P.funcs[f]? =some fn)(hb:(!(fn.name== "runtime.NumGoroutine")&&fn.body.isSome)=true):Du P f=true:=by
 simp only [Du,h];exact hb
end Pal
namespace Pal
open Go Go.Conc
def At(E:LH)(bk o:Nat)(ws:Lv_):Prop:=∃f e fr,E bk=some (.cells f e fr)/\∀j w,ws[j]? =some w->f[o+j]? =some w
theorem At.Ag{E E':LH}{bk o:Nat}{ws:Lv_}(h:At E bk o ws)(hle:Le E E'):At E' bk o ws:=let ⟨f,e,fr,K,O⟩:=h;⟨f,e,fr,hle _ _ K,O⟩
theorem At.cell{E H:LH}{B:List (Nat×Obj)}{bk o j:Nat}{ws:Lv_}{w:Value}(h:At E bk o ws)(K:ws[j]? =some w):(mk E H B).cell? ⟨bk,o+j,none⟩=some w:=
 let ⟨_,_,_,O,U⟩:=h;VW O (U j w K)
theorem At.cells{E H:LH}{B:List (Nat×Obj)}{bk o:Nat}{ws:Lv_}(h:At E bk o ws):∀j v,ws[j]? =some v->(mk E H B).cell? (Addr.add ⟨bk,o,none⟩ j)=some v:=λj v K=>by
 rw [Ei rfl];exact h.cell K
variable {P:Program}{J:Judge P}{Q:Gs_}{ds:Ld_}{ops:Ao_}{k:Li_}{cs:Lf_}{L:Env}{s:St}{E E' H:LH}{B B0:List (Nat×Obj)}
variable {d:Option Tmp}{y:Operand}{t u ty e:TypeId}{p:String}{af:Ae_}{g:On_}{rest:List Nat}{kd:IntKind}
section
variable {b:Frame}{n:Nat}
variable {x:Operand}{v:Value}{i:Nat}
theorem JL.put(h:look L i=some v)(O:JL J Q b n (As L (some i) v) ds k cs s):JL J Q b n L ds k cs s:=λT K=>
 O T ⟨K.size,λt w e=>by
  simp only [As,look] at e
  split at e
  ·rename_i U;subst U;cases e;exact K.at_ _ _ h
  ·exact K.at_ _ _ e⟩
theorem Ly{q:Prop} [Decidable q] (h:look L i=some (.bool (decide q)))(O:q->JL J Q b n (As L (some i) (.bool true)) ds k cs s)(U:¬q->JL J Q b n (As L (some i) (.bool false)) ds k cs s):JL J Q b n L ds k cs s:=by
 by_cases K:q
 ·refine JL.put (i:=i) (v:= .bool true) ?_ (O K);rw [h,decide_eq_true K]
 ·refine JL.put (i:=i) (v:= .bool false) ?_ (U K);rw [h,decide_eq_false K]
theorem Kb{c:Bool}(h:look L i=some (.bool c))(K:c=true->JL J Q b n (As L (some i) (.bool true)) ds k cs s)(O:c=false->JL J Q b n (As L (some i) (.bool false)) ds k cs s):JL J Q b n L ds k cs s:=by
 cases c
 ·exact JL.put h (O V)
 ·exact JL.put h (K V)
end
theorem I2{P:Program}{s:St}{ρ:Operand->Value}{d:Option Tmp}{t ty ft:TypeId}{x:Operand}{p:String}{af:Ae_}{g:On_}{a:Addr}{O:Array Field}{i:Nat}{K:Field}(U off:Nat)(V:P.underlying t=some (.struct O))(Y:Bo P ft=some (U+1))(hi:O[i]? =some K)(Z:K.type=ft)(ac:K.offset=off)(ag:ρ x= .pointer (some a)):
  Yl P ⟨d,.fieldAddr t x i,ty,p,af,g⟩ ρ s (.pointer (some (a.add off))):=by
 subst Z ac;exact Yl.fieldAddr V hi Y ag
section
variable {b:Frame}{n:Nat}
variable {x:Operand}{v:Value}{i:Nat}
theorem At.PW{bk o j:Nat}{ws:Lv_}{w:Value}(h:At E bk o ws)(K:∀x o,E x=some o->s.E x=some o)(O:ws[j]? =some w):s.cell? ⟨bk,o+j,none⟩=some w:=by
 obtain⟨f,e,fr,U,V⟩:=h;unfold St.cell? St.get;rw [K _ _ U];exact V j w O
theorem At.Pf{bk o:Nat}{ws:Lv_}(h:At E bk o ws)(K:∀x o,E x=some o->s.E x=some o):∀j v,ws[j]? =some v->s.cell? (Addr.add ⟨bk,o,none⟩ j)=some v:=λj v O=>by
 rw [Ei rfl];exact h.PW K O
end
variable {listed:Array Bool}
section
variable {b:Frame}{n:Nat}{m fuel:Nat}
variable {x:Operand}{v:Value}{i:Nat}
end
variable {D:Nat->Bool}
section
variable {b:Frame}{n:Nat}{m fuel:Nat}{i:Nat}{v:Value}
theorem AO.put(h:look L i=some v)(O:AO J Q b n ds ops k cs m D fuel listed (As L (some i) v) s):AO J Q b n ds ops k cs m D fuel listed L s:=λT K=>
 O T ⟨K.size,λt w e=>by
  simp only [As,look] at e
  split at e
  ·rename_i U;subst U;cases e;exact K.at_ _ _ h
  ·exact K.at_ _ _ e⟩
theorem Gy{q:Prop} [Decidable q] (h:look L i=some (.bool (decide q)))(O:q->AO J Q b n ds ops k cs m D fuel listed (As L (some i) (.bool true)) s)(U:¬q->AO J Q b n ds ops k cs m D fuel listed (As L (some i) (.bool false)) s):AO J Q b n ds ops k cs m D fuel listed L s:=by
 by_cases K:q
 ·refine AO.put (i:=i) (v:= .bool true) ?_ (O K);rw [h,decide_eq_true K]
 ·refine AO.put (i:=i) (v:= .bool false) ?_ (U K);rw [h,decide_eq_false K]
theorem IQ{c:Bool}(h:look L i=some (.bool c))(K:c=true->AO J Q b n ds ops k cs m D fuel listed (As L (some i) (.bool true)) s)(O:c=false->AO J Q b n ds ops k cs m D fuel listed (As L (some i) (.bool false)) s):AO J Q b n ds ops k cs m D fuel listed L s:=by
 cases c
 ·exact AO.put h (O V)
 ·exact AO.put h (K V)
end
structure Rp (α:Type) where
 n:Nat
 r:LH->Lv_->α->Prop
 Ag:∀{E E':LH} {ws:Lv_} {x:α},Le E E'->r E ws x->r E' ws x
 len:∀{E:LH} {ws:Lv_} {x:α},r E ws x->ws.length=n
 one:∀{E:LH} {ws:Lv_} {x:α},r E ws x->∀w∈ws,B3 w=true
def rK(kd:IntKind):Rp Int:=⟨1,λ_ ws x=>ws= [.int kd x],λ_ h=>h,λh=>by subst h;rfl,λh w hw=>by subst h;simp at hw;subst hw;rfl⟩
abbrev rI:Rp Int:=rK .i64
def rN(kd:IntKind):Rp Nat:=⟨1,λ_ ws x=>ws= [.int kd ((x:Nat):Int)],λ_ h=>h,λh=>by subst h;rfl,λh w hw=>by subst h;simp at hw;subst hw;rfl⟩
def rB:Rp Bool:=⟨1,λ_ ws x=>ws= [.bool x],λ_ h=>h,λh=>by subst h;rfl,λh w hw=>by subst h;simp at hw;subst hw;rfl⟩
def rP{α β:Type}(p:Rp α)(q:Rp β):Rp (α×β):=⟨p.n+q.n,λE ws x=>∃U V,ws=U++V/\p.r E U x.1/\q.r E V x.2,
 λhle ⟨a,b,h,K,O⟩=>⟨a,b,h,p.Ag hle K,q.Ag hle O⟩,λ⟨a,b,h,K,O⟩=>by subst h;rw [List.length_append,p.len K,q.len O],
 λ⟨a,b,h,K,O⟩ w hw=>by
  subst h
  rcases List.mem_append.1 hw with hw | hw
  ·exact p.one K w hw
  ·exact q.one O w hw⟩
def Al{α:Type}(p:Rp α)(E:LH)(a:Option Addr)(c:Nat)(xs:List α):Prop:=
 xs.length<=c/\((xs= []/\∀ad:Addr,a=some ad->ad.spot=none∨c=0)∨∃bk off,a=some ⟨bk,off,none⟩/\∀(i:Nat) x,xs[i]? =some x->∃ws,p.r E ws x/\At E bk (off+i*p.n) ws)
theorem Al.Ag{α:Type}{p:Rp α}{E E':LH}{a:Option Addr}{c:Nat}{xs:List α}(h:Al p E a c xs)(hle:Le E E'):Al p E' a c xs:=
 ⟨h.1,h.2.imp id λ⟨bk,off,K,O⟩=>⟨bk,off,K,λi x U=>let ⟨ws,V,Y⟩:=O i x U;⟨ws,p.Ag hle V,Y.Ag hle⟩⟩⟩
theorem Al.nil{α:Type}{p:Rp α}{E:LH}{c:Nat}:Al p E none c []:=⟨Nat.zero_le _,.inl ⟨V,λ_ h=>by cases h⟩⟩
def rL{α:Type}(p:Rp α):Rp (List α):=⟨1,λE ws xs=>∃a c,ws= [.slice a xs.length c]/\Al p E a c xs,
 λhle ⟨a,c,h,K⟩=>⟨a,c,h,K.Ag hle⟩,λ⟨a,c,h,K⟩=>by subst h;rfl,λ⟨a,c,h,K⟩ w hw=>by subst h;simp at hw;subst hw;rfl⟩
def rV:Rp Value:=⟨1,λ_ ws x=>ws= [x]/\B3 x=true,λ_ h=>h,λh=>by rw [h.1];rfl,λh w hw=>by rw [h.1] at hw;simp at hw;subst hw;exact h.2⟩
def rA{α:Type}(k:Nat)(p:Rp α):Rp (List α):=⟨k*p.n,λE ws xs=>xs.length=k/\∃wss:List (Lv_),ws=wss.flatten/\wss.length=k/\∀(i:Nat) x us,xs[i]? =some x->wss[i]? =some us->p.r E us x,
 λhle ⟨U,wss,h,K,O⟩=>⟨U,wss,h,K,λi x us a b=>p.Ag hle (O i x us a b)⟩,
 λ{E ws xs} ⟨U,wss,h,K,O⟩=>by
  subst h
  have:∀(wss:List (Lv_)) (xs:List α),xs.length=wss.length->(∀(i:Nat) x us,xs[i]? =some x->wss[i]? =some us->p.r E us x)->wss.flatten.length=wss.length*p.n:=by
   intro wss
   induction wss with
   | nil=>intro xs _ _;simp
   | cons us wss Y=>
    intro xs V h
    cases xs with
    | nil=>simp at V
    | cons x xs=>
     rw [List.flatten_cons,List.length_append,p.len (h 0 x us rfl rfl),Y xs (by simpa using V) (λi y u a b=>h (i+1) y u a b),List.length_cons,Nat.succ_mul,Nat.add_comm]
  rw [this wss xs (by omega) O,K],
 λ{E ws xs} ⟨U,wss,h,K,O⟩ w hw=>by
  subst h
  obtain⟨us,Z,hw⟩:=List.mem_flatten.1 hw
  obtain⟨i,hi⟩:=List.mem_iff_getElem?.1 Z
  have ac:i<xs.length:=by rw [U,← K];exact(List.getElem?_eq_some_iff.1 hi).1
  exact p.one (O i _ us (List.getElem?_eq_getElem ac) hi) w hw⟩
def ix{α:Type}(xs:List α)(i:Int):Option α:=if 0<=i then xs[i.toNat]? else none
theorem Gl{α:Type}{xs:List α}{i:Int}{x:α}(h:ix xs i=some x):∃m:Nat,i=m/\xs[m]? =some x:=by
 unfold ix at h;split at h
 ·exact⟨i.toNat,by omega,h⟩
 ·cases h
def Av(x:Int):Option Int:=if -9223372036854775808<=x/\x<=9223372036854775807 then some x else none
theorem KI{x y:Int}(h:Av x=some y):y=x/\ -9223372036854775808<=x/\x<=9223372036854775807:=by
 unfold Av at h;split at h
 ·rename_i hb;exact⟨(Option.some.inj h).symm,hb⟩
 ·cases h
theorem bind_some{α β:Type}{o:Option α}{f:α->Option β}{r:β}(h:o.bind f=some r):∃x,o=some x/\f x=some r:=by
 cases o with
 | none=>cases h
 | some x=>exact⟨x,rfl,h⟩
inductive Bq (S A:Type) where
 | more (s:S)
 | done (a:A)
def iter{S A:Type}(body:S->Option (Bq S A)):Nat->S->Option A
 | 0,_=>none
 | f+1,s=>match body s with
  | none=>none
  | some (.done a)=>some a
  | some (.more s')=>iter body f s'
theorem Ra{S A:Type}{body:S->Option (Bq S A)}{f:Nat}{s:S}{a:A}(h:iter body (f+1) s=some a):∃st,body s=some st:=by
 simp only [iter] at h;cases hb:body s with
 | none=>rw [hb] at h;cases h
 | some st=>exact⟨st,rfl⟩
theorem Rb{S A:Type}{body:S->Option (Bq S A)}{f:Nat}{s:S}{a K:A}(h:iter body (f+1) s=some a)(hb:body s=some (.done K)):K=a:=by
 simp only [iter,hb] at h;exact Option.some.inj h
theorem Q1{S A:Type}{body:S->Option (Bq S A)}{f:Nat}{s s':S}{a:A}(h:iter body (f+1) s=some a)(hb:body s=some (.more s')):iter body f s'=some a:=by
 simp only [iter,hb] at h;exact h
abbrev Seg:=List (Nat×Obj)
def Aj(E H:LH)(S:List Seg):St:=mk E H S.flatten
def Ap(E H:LH)(S:List Seg):Prop:=Nd E H S.flatten
theorem Nd.mem{E H:LH}:∀{B:List (Nat×Obj)} {b:Nat} {o:Obj},Nd E H B->(b,o)∈B->∃i:Nat,B[i]? =some (b,o):=λ_ h=>List.mem_iff_getElem?.1 h
theorem Nd.iff{E H:LH}:∀{B:List (Nat×Obj)},Nd E H B↔(B.map (·.1)).Nodup/\∀p∈B,E p.1=none/\H p.1=none
 | []=>by simp [Nd]
 | (b,o)::B=>by
  simp only [Nd,List.map_cons,List.nodup_cons,List.mem_cons,forall_eq_or_imp,Nd.iff (B:=B),List.mem_map,not_exists,not_and]
  constructor
  ·rintro⟨K,O,U,V,Y⟩;exact⟨⟨U,V⟩,⟨K,O⟩,Y⟩
  ·rintro⟨⟨U,V⟩,⟨K,O⟩,Y⟩;exact⟨K,O,U,V,Y⟩
theorem Nd.perm{E H:LH}{B B':List (Nat×Obj)}(h:Nd E H B)(K:B.Perm B'):Nd E H B':=by
 rw [Nd.iff] at h ⊢;exact⟨(K.map _).nodup_iff.1 h.1,λp O=>h.2 p (K.mem_iff.2 O)⟩
theorem QI{E H:LH}{B B':List (Nat×Obj)}(h:Nd E H B)(K:B.Perm B'):Bl B H=Bl B' H:=by
 funext x;by_cases O:∃p∈B,p.1=x
 ·obtain⟨⟨b,o⟩,hm,rfl⟩:=O;obtain⟨i,hi⟩:=h.mem hm;obtain⟨j,U⟩:=(h.perm K).mem (K.mem_iff.1 hm);rw [IZ h hi,IZ (h.perm K) U]
 ·have key:∀{C:List (Nat×Obj)},(∀p∈C,p.1≠x)->Bl C H x=H x:=by
   intro C
   induction C with
   | nil=>intro _;rfl
   | cons p C V=>
    intro hC;obtain⟨c,u⟩:=p;have Y:x≠c:=λe=>hC (c,u) (by simp) e.symm;simp only [Bl,if_neg Y];exact V λp K=>hC p (List.mem_cons_of_mem _ K)
  rw [key λp K e=>O ⟨p,K,e⟩,key λp Z e=>O ⟨p,K.mem_iff.2 Z,e⟩]
theorem Fi{E H:LH}{B B':List (Nat×Obj)}(h:Nd E H B)(K:B.Perm B'):mk E H B=mk E H B':=by unfold mk;rw [QI h K]
theorem Ey{S:List Seg}{j:Nat}{seg seg':Seg}(h:S[j]? =some seg):S.flatten.Perm ((S.set j []).flatten++seg)/\(S.set j seg').flatten.Perm ((S.set j []).flatten++seg'):=by
 induction S generalizing j with
 | nil=>simp at h
 | cons x S K=>
  cases j with
  | zero=>
   simp at h;subst h;simp only [List.set_cons_zero,List.flatten_cons,List.nil_append];exact⟨List.perm_append_comm,List.perm_append_comm⟩
  | succ j=>
   simp at h;obtain⟨O,U⟩:=K h;simp only [List.set_cons_succ,List.flatten_cons,List.append_assoc];exact⟨O.append_left x,U.append_left x⟩
theorem Gk{E H:LH}{S:List Seg}{j:Nat}{seg:Seg}(K:Ap E H S)(h:S[j]? =some seg):Aj E H S=mk E H ((S.set j []).flatten++seg)/\Nd E H ((S.set j []).flatten++seg):=
 ⟨Fi K (Ey (seg':=seg) h).1,Nd.perm K (Ey (seg':=seg) h).1⟩
theorem H5{E H:LH}{S:List Seg}{j:Nat}{seg seg':Seg}(h:S[j]? =some seg)(K:Nd E H ((S.set j []).flatten++seg')):mk E H ((S.set j []).flatten++seg')=Aj E H (S.set j seg')/\Ap E H (S.set j seg'):=
 ⟨Fi K (Ey h).2.symm,Nd.perm K (Ey h).2.symm⟩
theorem Gg(S:List Seg)(seg:Seg):(S++ [seg]).flatten=S.flatten++seg:=by simp
theorem Fh{E H:LH}{S:List Seg}{seg:Seg}(K:Nd E H (S.flatten++seg)):mk E H (S.flatten++seg)=Aj E H (S++ [seg])/\Ap E H (S++ [seg]):=by
 unfold Aj Ap;rw [Gg];exact⟨V,K⟩
theorem C6{E H:LH}{S:List Seg}{j i bk:Nat}{seg:Seg}{o:Obj}(K:Ap E H S)(O:S[j]? =some seg)(hi:seg[i]? =some (bk,o)):(Aj E H S).get bk=some o:=by
 have hm:(bk,o)∈S.flatten:=List.mem_flatten.2 ⟨seg,List.mem_of_getElem? O,List.mem_of_getElem? hi⟩;obtain⟨V,U⟩:=K.mem hm;exact Oi K U
theorem BC{E H:LH}{S:List Seg}{j bk off:Nat}{c:Av_}{e:TypeId}{f:Nat×Nat}{v:Value}{seg:Seg}(K:Ap E H S)(O:S[j]? =some ((bk,.cells c e f)::seg))(U:c[off]? =some v):(Aj E H S).cell? ⟨bk,off,none⟩=some v:=by
 unfold St.cell?;rw [C6 (i:=0) K O rfl];exact U
theorem VB{E H:LH}{S:List Seg}{j bk off:Nat}{c:Av_}{e:TypeId}{f:Nat×Nat}{vs:Lv_}{seg:Seg}(K:Ap E H S)(O:S[j]? =some ((bk,.cells c e f)::seg))(U:∀i v,vs[i]? =some v->c[off+i]? =some v):∀i v,vs[i]? =some v->(Aj E H S).cell? (Addr.add ⟨bk,off,none⟩ i)=some v:=λi v hi=>by
 rw [Ei rfl];exact BC K O (U i v hi)
def OL{α:Type}(e:TypeId)(p:Rp α)(E:LH)(a:Option Addr)(c:Nat)(seg:Seg)(xs:List α):Prop:=
 ∃wss:List (Lv_),GS e p.n a xs.length c seg wss.flatten/\wss.length=xs.length/\∀(i:Nat) x ws,xs[i]? =some x->wss[i]? =some ws->p.r E ws x
theorem OL.Ag{α:Type}{e:TypeId}{p:Rp α}{E E':LH}{a:Option Addr}{c:Nat}{seg:Seg}{xs:List α}(h:OL e p E a c seg xs)(hle:Le E E'):OL e p E' a c seg xs:=
 let ⟨wss,K,O,U⟩:=h;⟨wss,K,O,λi x ws V hw=>p.Ag hle (U i x ws V hw)⟩
theorem OL.nil{α:Type}{e:TypeId}{p:Rp α}{E:LH}:OL e p E none 0 [] []:=⟨[],GS.nil,V,λi x ws K=>by simp at K⟩
theorem H0{α:Type}{p:Rp α}{E:LH}{wss:List (Lv_)}{xs:List α}(K:wss.length=xs.length)(h:∀(i:Nat) x ws,xs[i]? =some x->wss[i]? =some ws->p.r E ws x):∀ws∈wss,ws.length=p.n:=λws hw=>by
 obtain⟨i,hi⟩:=List.mem_iff_getElem?.1 hw
 have O:i<xs.length:=by rw [← K];exact(List.getElem?_eq_some_iff.1 hi).1
 exact p.len (h i _ ws (List.getElem?_eq_getElem O) hi)
theorem J5{α:Type}{n:Nat}:∀{wss:List (List α)},(∀ws∈wss,ws.length=n)->∀{i:Nat} {ws:List α},wss[i]? =some ws->∀j w,ws[j]? =some w->wss.flatten[i*n+j]? =some w
 | [],_,_,_,h,_,_,_=>by simp at h
 | us::wss,O,0,ws,h,j,w,K=>by
  simp at h;subst h
  have:j<us.length:=(List.getElem?_eq_some_iff.1 K).1
  simp only [List.flatten_cons,Nat.zero_mul,Nat.zero_add]
  rw [List.getElem?_append_left this];exact K
 | us::wss,O,i+1,ws,h,j,w,K=>by
  simp at h
  have hu:us.length=n:=O us (by simp)
  simp only [List.flatten_cons]
  rw [List.getElem?_append_right (by rw [hu,Nat.succ_mul];omega)]
  have e:(i+1)*n+j - us.length=i*n+j:=by rw [hu,Nat.succ_mul];omega
  rw [e];exact J5 (λws hw=>O ws (List.mem_cons_of_mem _ hw)) h j w K
variable {ρ:Operand->Value}{z:Operand}{kd':IntKind}{m':Int}
section
variable {x:Operand}{v:Value}{m:Int}{a b:Nat}
theorem OM(c:Nat)(K:ρ x= .int .u64 (a:Int))(O:ρ y= .int .u64 (c:Int))(U:c<=64):Yl P ⟨d,.binOp .shr t x y u,ty,p,af,g⟩ ρ s (.int .u64 ((a>>>c:Nat):Int)):=by
 have h:=Yl.shr (P:=P) (s:=s) (d:=d) (t:=t) (u:=u) (ty:=ty) (p:=p) (af:=af) (g:=g) K O (by omega);have e:min (c:Int).toNat IntKind.u64.bits=c:=by simp [IntKind.bits];omega
 rw [e,Int.fdiv_eq_ediv_of_nonneg _ (Int.pow_nonneg (by decide))] at h;have e2:(a:Int) / 2 ^ c=((a>>>c:Nat):Int):=by rw [Nat.shiftRight_eq_div_pow,Int.natCast_ediv];rfl
 rw [e2] at h;exact h
def FV(m:Int):Nat:=(m % 2 ^ 64).toNat
theorem Yl.FV(K:P.underlying t=some (.int .i64))(hu:P.underlying u=some (.int .u64))(O:ρ x=iV m):Yl P ⟨d,.convert t u x,ty,p,af,g⟩ ρ s (.int .u64 ((FV m:Nat):Int)):=by
 have h:=Fj (P:=P) (s:=s) (d:=d) (ty:=ty) (p:=p) (af:=af) (g:=g) K hu O
 have e:IntKind.u64.wrap m=((Pal.FV m:Nat):Int):=by
  unfold Pal.FV;simp only [IntKind.wrap,IntKind.bits,IntKind.signed];simp;omega
 rw [e] at h;exact h
theorem EZ{r:Int}(K:ρ x=iV m)(O:ρ y=iV m')(h:Av (m+m')=some r):Yl P ⟨d,.binOp .add t x y u,ty,p,af,g⟩ ρ s (iV r):=by
 obtain⟨rfl,hb⟩:=KI h;exact XL K O hb
theorem Ej{r:Int}(K:ρ x=iV m)(O:ρ y=iV m')(h:Av (m - m')=some r):Yl P ⟨d,.binOp .sub t x y u,ty,p,af,g⟩ ρ s (iV r):=by
 obtain⟨rfl,hb⟩:=KI h;exact X5 K O hb
theorem M7{r:Int}(K:ρ x=iV m)(O:ρ y=iV m')(h:Av (m*m')=some r):Yl P ⟨d,.binOp .mul t x y u,ty,p,af,g⟩ ρ s (iV r):=by
 obtain⟨rfl,hb⟩:=KI h;exact XH K O hb
theorem Hr{r:Int}(K:ρ x=iV m)(h:Av (-m)=some r):Yl P ⟨d,.unOp .neg t x,ty,p,af,g⟩ ρ s (iV r):=by
 obtain⟨rfl,hb⟩:=KI h;exact YH K hb
theorem Hq(K:ρ x= .int kd m)(O:ρ y= .int kd m'):Yl P ⟨d,.binOp .neq t x y u,ty,p,af,g⟩ ρ s (.bool (decide (m≠m'))):=by
 have h:=Yl.neq (P:=P) (s:=s) (d:=d) (t:=t) (u:=u) (ty:=ty) (p:=p) (af:=af) (g:=g) K O;simpa using h
theorem KW{q:Prop} [Decidable q] (K:ρ x= .bool (decide q)):Yl P ⟨d,.unOp .not t x,ty,p,af,g⟩ ρ s (.bool (decide (¬q))):=by
 have h:=Yl.not (P:=P) (s:=s) (d:=d) (t:=t) (ty:=ty) (p:=p) (af:=af) (g:=g) K;simpa using h
theorem Ow{K:Array (Nat×Operand)}:execOp ρ ⟨d,.build t K,ty,p,af,g⟩=(do pure (Next.value (← Instr.build t (K.map λ(j,x)=>(j,ρ x))))):=by
 simp only [execOp]
theorem Yl.build{z:Value}{O:Array Field}{K:Array (Nat×Operand)}{vs:List (Nat×Value)}{places:Array (Nat×Nat)}{cells:Av_}(Y:zeroOf P t=some z)(Z:P.underlying t=some (.struct O))(ac:O.toList.mapM (λf=>(Bo P f.type).map λn=>(f.offset,n))=some places.toList)
  (ag:K.toList.map (λ(j,x)=>(j,ρ x))=vs) (al:Instr.fill (places[·]?) z.cells vs=some cells):Yl P ⟨d,.build t K,ty,p,af,g⟩ ρ s (.agg cells):=by
 refine EN Ow ?_;unfold Instr.build;refine Ar (x:=zeroValue t) _ (GQ Y ?_);refine Ar _ _ (Ce Z ?_);simp only;have key:∀(l:List Field) (acc:List (Nat×Nat)) {Q:List (Nat×Nat)->St->Prop} {X:Halt->St->Prop} (K:List (Nat×Nat)),l.mapM (λf=>(Bo P f.type).map λn=>(f.offset,n))=some K->Q (acc.reverse++K) s->lp P (List.mapM.loop (m:=Sem) (λf=>do pure (f.offset,← Go.sizeOf f.type)) l acc) s Q X:=by
  intro l
  induction l with
  | nil=>
   intro acc Q X K h k;simp at h;subst h;simp only [List.append_nil] at k;exact k
  | cons f l am=>
   intro acc Q X K h k;simp only [List.mapM_cons,bind] at h;cases U:Bo P f.type with
   | none=>rw [U] at h;simp at h
   | some n=>
    rw [U] at h;simp only [Option.map_some,Option.bind_some] at h;obtain⟨ap,aq,V⟩:=bind_some h;simp at V;subst V;have:=am ((f.offset,n)::acc) (Q:=Q) (X:=X) ap aq (by simpa using k);simp only [List.mapM.loop];exact Ar _ _ (Ar (x:=Go.sizeOf f.type) _ (EJ U this))
 have e:(K.map λ(j,x)=>(j,ρ x)).toList=vs:=by rw [← ag,Array.toList_map]
 refine Ar _ _ ?_;rw [Array.mapM_eq_mapM_toList];refine Ar (x:=List.mapM.loop (m:=Sem) (λf=>do pure (f.offset,← Go.sizeOf f.type)) O.toList []) (f:=λr=>pure r.toArray) (key O.toList [] places.toList ac ?_)
 simp only [List.reverse_nil,List.nil_append,lp,pure];rw [e,al];exact⟨rfl,rfl⟩
end
variable {S:List Seg}
section
variable {b:Frame}{n:Nat}
variable {x:Operand}{v:Value}{i:Nat}
theorem JS.box(O:ops[i]? =some ⟨d,.box e x,ty,p,af,g⟩)(hw:AR L ops ⟨d,.box e x,ty,p,af,g⟩=some true)(U:BJ b n ⟨d,.box e x,ty,p,af,g⟩=true)(V:Ap E H S)(Y:ev L x=some v)
  (h:∀r,Ap E H (S++ [[(r,.cells v.cells e (0,0))]])->JL J Q b n (As L d (.pointer (some ⟨r,0,none⟩))) ds (.inRegion ops rest::k) cs (Aj E H (S++ [[(r,.cells v.cells e (0,0))]]))):
  JL J Q b n L ds (.inRegion ops (i::rest)::k) cs (Aj E H S):=
 JL.box O hw U V Y λr K=>by rw [(Fh K).1];exact h r (Fh K).2
theorem JS.alloc{z:Value}(O:ops[i]? =some ⟨d,.alloc e,ty,p,af,g⟩)(hw:AR L ops ⟨d,.alloc e,ty,p,af,g⟩=some true)(U:BJ b n ⟨d,.alloc e,ty,p,af,g⟩=true)(V:Ap E H S)(Y:zeroOf P e=some z)
  (h:∀r,Ap E H (S++ [[(r,.cells z.cells e (0,0))]])->JL J Q b n (As L d (.pointer (some ⟨r,0,none⟩))) ds (.inRegion ops rest::k) cs (Aj E H (S++ [[(r,.cells z.cells e (0,0))]]))):
  JL J Q b n L ds (.inRegion ops (i::rest)::k) cs (Aj E H S):=
 JL.alloc O hw U V Y λr K=>by rw [(Fh K).1];exact h r (Fh K).2
theorem JS.store{bk off:Nat}{c:Av_}(j:Nat)(U:ops[i]? =some ⟨d,.store t x y,ty,p,af,g⟩)(hw:AR L ops ⟨d,.store t x y,ty,p,af,g⟩=some true)(V:BJ b n ⟨d,.store t x y,ty,p,af,g⟩=true)(Y:Ap E H S)
  (Z:ev L x=some (.pointer (some ⟨bk,off,none⟩))) (ac:ev L y=some v) (ag:Bo P t=some v.cells.size) (al:∀u∈v.cells.toList,B3 u=true) (K:S[j]? =some [(bk,.cells c e (0,0))]) (hle:off+v.cells.size<=c.size)
  (h:Ap E H (S.set j [(bk,.cells (A7 c off v.cells.toList) e (0,0))])->JL J Q b n (As L d undef) ds (.inRegion ops rest::k) cs (Aj E H (S.set j [(bk,.cells (A7 c off v.cells.toList) e (0,0))]))):
  JL J Q b n L ds (.inRegion ops (i::rest)::k) cs (Aj E H S):=by
 obtain⟨am,ap⟩:=Gk Y K;rw [am];refine JL.store (S.set j []).flatten.length U hw V ap Z ac ag al (c:=c) (e:=e) (by simp) hle λO=>?_;have aq:((S.set j []).flatten++ [(bk,Obj.cells c e (0,0))]).set (S.set j []).flatten.length (bk,.cells (A7 c off v.cells.toList) e (0,0))=(S.set j []).flatten++ [(bk,.cells (A7 c off v.cells.toList) e (0,0))]:=H4 _ _ _ _;rw [aq] at O ⊢;obtain⟨aw,ay⟩:=H5 K O;rw [aw];exact h ay
theorem JS.drop{todo:Li_}{seg:Seg}(j:Nat)(V:Ap E H S)(K:S[j]? =some seg)(h:Ap E H (S.set j [])->JL J Q b n L ds todo cs (Aj E H (S.set j []))):JL J Q b n L ds todo cs (Aj E H S):=by
 obtain⟨Y,O⟩:=Gk V K;rw [Y];have Z:Nd E H ((S.set j []).flatten++ []):=by rw [List.append_nil];exact J7.Nd.left O
 obtain⟨U,ac⟩:=H5 (seg':= []) K Z;refine JL.drop (S.set j []).flatten (λq ag=>List.mem_iff_getElem?.1 (List.mem_append_left _ ag)) O ?_;have al:(S.set j []).flatten++ []=(S.set j []).flatten:=List.append_nil _;rw [al] at U;rw [U];exact h ac
theorem B7{todo:Li_}{bk:Nat}{c:Av_}{f:Nat×Nat}(j:Nat)(O:Ap E H S)(U:S[j]? =some [(bk,.cells c e f)])
  (h:∀E',Le E E'->At E' bk 0 c.toList->Ap E' H (S.set j [])->JL J Q b n L ds todo cs (Aj E' H (S.set j []))):JL J Q b n L ds todo cs (Aj E H S):=by
 obtain⟨V,Y⟩:=Gk O U;rw [V];have Z:((S.set j []).flatten++ [(bk,Obj.cells c e f)])[(S.set j []).flatten.length]? =some (bk,Obj.cells c e f):=by simp
 refine JL.freeze (S.set j []).flatten.length Y Z λE' hle ac K=>?_;have ag:((S.set j []).flatten++ [(bk,Obj.cells c e f)]).eraseIdx (S.set j []).flatten.length=(S.set j []).flatten:=by rw [List.eraseIdx_append_of_length_le (Nat.le_refl _)];simp
 rw [ag] at K ⊢;exact h E' hle ⟨_,_,_,ac,λi w hi=>by simpa using hi⟩ K
theorem Bd{α:Type}{pp:Rp α}{todo:Li_}{a:Option Addr}{c:Nat}{seg:Seg}{xs:List α}(j:Nat)(U:OL e pp E a c seg xs)(al:Ap E H S)(am:S[j]? =some seg)
  (h:∀E',Le E E'->Al pp E' a c xs->Ap E' H (S.set j [])->JL J Q b n L ds todo cs (Aj E' H (S.set j []))):JL J Q b n L ds todo cs (Aj E H S):=by
 obtain⟨wss,U,Z,ac⟩:=U;have ap:∀ad:Addr,a=some ad->ad.spot=none:=λad K=>by
  rcases U with⟨O,_⟩ | ⟨bk,f,O,_⟩
  ·rw [O] at K;cases K
  ·rw [O] at K;cases K;rfl
 obtain⟨O,aq⟩:=Gk al am;rw [O];refine U5 U aq λE' hle aw ay=>h E' hle ?_ ay;obtain⟨az,a0,V,a1,a6,Y⟩:=aw;obtain⟨rfl,-,rfl⟩:a=az/\xs.length=xs.length/\c=a0:=by
  simp only [Value.slice.injEq] at V;exact⟨V.1,rfl,V.2.2⟩
 refine⟨a1,?_⟩;rcases Y with Y | ⟨bk,off,f,a2,fr,a3,g2,a4⟩
 ·exact .inl ⟨List.eq_nil_of_length_eq_zero Y,λad K=> .inl (ap ad K)⟩
 ·refine .inr ⟨bk,off,a3,λi x ag=>?_⟩;have a5:i<wss.length:=by rw [Z];exact(List.getElem?_eq_some_iff.1 ag).1
  have hw:=List.getElem?_eq_getElem a5;refine⟨wss[i],pp.Ag hle (ac i x _ ag hw),f,a2,fr,g2,λm w hm=>?_⟩;rw [Nat.add_assoc];exact a4 _ w (J5 (H0 Z ac) hw m w hm)
theorem U9{α:Type}{pp:Rp α}{wss:List (Lv_)}{xs:List α}{x:α}{ws:Lv_}(O:wss.length=xs.length)(h:∀(i:Nat) x ws,xs[i]? =some x->wss[i]? =some ws->pp.r E ws x)(U:pp.r E ws x):
  ∀(i:Nat) y us,(xs++ [x])[i]? =some y->(wss++ [ws])[i]? =some us->pp.r E us y:=by
 intro i y us K hu;rcases Nat.lt_or_ge i xs.length with hi | hi
 ·rw [List.getElem?_append_left hi] at K;rw [List.getElem?_append_left (by omega)] at hu;exact h i y us K hu
 ·rw [List.getElem?_append_right hi] at K;rw [List.getElem?_append_right (by omega),O] at hu;cases hm:i - xs.length with
  | zero=>rw [hm] at K hu;simp at K hu;subst K hu;exact U
  | succ m=>rw [hm] at K;simp at K
theorem Vg{α:Type}{pp:Rp α}{t1 t2:TypeId}{U c:Nat}{a:Option Addr}{seg:Seg}{xs:List α}{xv:α}{al:Nat}{d1:Tmp}{ats:Array TypeId}{V:TypeId}{Y:String}{Z:Ae_}{g':On_}{z:Value}(j:Nat)
  (aq:ops[i]? =some ⟨some d1,.buildSlice t2 1 #[(0,y)],V,Y,Z,g'⟩) (hw:AR L ops ⟨some d1,.buildSlice t2 1 #[(0,y)],V,Y,Z,g'⟩=some true) (aw:BJ b n ⟨some d1,.buildSlice t2 1 #[(0,y)],V,Y,Z,g'⟩=true)
  (ay:ops[al]? =some ⟨d,.call ⟨.builtin .append,#[x,.tmp d1],ats⟩,ty,p,af,g⟩) (az:∀w,AR (As L (some d1) w) ops ⟨d,.call ⟨.builtin .append,#[x,.tmp d1],ats⟩,ty,p,af,g⟩=some true) (a0:BJ b n ⟨d,.call ⟨.builtin .append,#[x,.tmp d1],ats⟩,ty,p,af,g⟩=true)
  (a1:∀w,ev (As L (some d1) w) x=some (.slice a xs.length c)) (a2:ev L y=some v) (a3:ats[0]? =some t) (a4:ats[1]? =some t1) (a5:P.underlying t=some (.slice e)) (a6:P.underlying t1=some (.slice e)) (a7:P.underlying t2=some (.slice e)) (a8:Bo P e=some pp.n) (hb:FB P e=some U) (a9:zeroOf P e=some z) (bb:z.cells.size=pp.n)
  (bd:0<U) (be:U<=64) (bi:0<pp.n) (bn:pp.n<=64) (bo:xs.length+1<=2 ^ 40) (ac:OL e pp E a c seg xs) (ag:pp.r E v.cells.toList xv) (bv:Ap E H S) (am:S[j]? =some seg)
  (h:∀w K O seg',OL e pp E K O seg' (xs++ [xv])->Ap E H (S.set j seg')->JL J Q b n (As (As L (some d1) w) d (.slice K (xs++ [xv]).length O)) ds (.inRegion ops rest::k) cs (Aj E H (S.set j seg'))):
  JL J Q b n L ds (.inRegion ops (i::al::rest)::k) cs (Aj E H S):=by
 obtain⟨wss,ac,ap,bw⟩:=ac;obtain⟨bx,bz⟩:=Gk bv am;rw [bx];have bY:v.cells.size=pp.n:=by simpa using pp.len ag
 refine Vu aq hw aw ay az a0 a1 a2 a3 a4 a5 a6 a7 a8 hb a9 bb bd be bY bi bn bo (pp.one ag) ac bz λw K O bZ b0 b1=>?_;obtain⟨b2,b3⟩:=H5 am b1;rw [b2];have hlen:(xs++ [xv]).length=xs.length+1:=by simp
 have:=h w K O bZ ⟨wss++ [v.cells.toList],by rw [hlen,List.flatten_append];simpa using b0,by simp [ap],U9 ap bw ag⟩ b3;rw [hlen] at this;exact this
theorem SJ{α:Type}{pp:Rp α}{a:Option Addr}{c:Nat}{xs:List α}{xv:α}{m:Int}(O:Al pp E a c xs)(hm:ix xs m=some xv)
  (U:ops[i]? =some ⟨d,.indexAddr t x y,ty,p,af,g⟩) (hw:AR L ops ⟨d,.indexAddr t x y,ty,p,af,g⟩=some true) (V:BJ b n ⟨d,.indexAddr t x y,ty,p,af,g⟩=true)
  (Y:ev L x=some (.slice a xs.length c)) (Z:ev L y=some (.int kd m)) (ac:P.underlying t=some (.slice e)) (ag:Bo P e=some pp.n)
  (h:∀bk o ws,pp.r E ws xv->At E bk o ws->JL J Q b n (As L d (.pointer (some ⟨bk,o,none⟩))) ds (.inRegion ops rest::k) cs (Aj E H S)):
  JL J Q b n L ds (.inRegion ops (i::rest)::k) cs (Aj E H S):=by
 obtain⟨m,rfl,hm⟩:=Gl hm;have al:m<xs.length:=(List.getElem?_eq_some_iff.1 hm).1;obtain⟨aw,⟨rfl,_⟩ | ⟨bk,off,rfl,am⟩⟩:=O
 ·simp at al
 obtain⟨ws,ap,aq⟩:=am m xv hm;refine A4 (v:= .pointer (some ⟨bk,off+m*pp.n,none⟩)) U hw V (λρ K=>?_) (h bk _ ws ap aq);have:=MM (P:=P) (s:=Aj E H S) (d:=d) (ty:=ty) (p:=p) (af:=af) (g:=g) ac ag (K x _ Y) (K y _ Z) ⟨by omega,by omega⟩;rw [Ei rfl] at this;simpa using this
theorem At.I4{bk o j:Nat}{ws:Lv_}{w:Value}(h:At E bk o ws)(K:ws[j]? =some w):(Aj E H S).cell? ⟨bk,o+j,none⟩=some w:=h.cell K
theorem At.LQ{bk o:Nat}{ws:Lv_}(h:At E bk o ws):∀j v,ws[j]? =some v->(Aj E H S).cell? (Addr.add ⟨bk,o,none⟩ j)=some v:=h.cells
theorem Bu{todo:Li_}(I:Env->St->Prop){c:Code}(K:∀L s,I L s->JL J Q b n L ds todo cs s)(h:(∀L s,I L s->JL J Q b n L ds todo cs s)->JL J Q b n L ds (.code c::todo) cs s):JL J Q b n L ds (.code c::todo) cs s:=h K
theorem Fx{K:List Nat}{todo:Li_}(l:List Nat)(I:Env->St->Prop)(O:∀L s,I L s->JL J Q b n L ds (.inRegion ops l::todo) cs s)(h:(∀L s,I L s->JL J Q b n L ds (.inRegion ops l::todo) cs s)->JL J Q b n L ds (.inRegion ops K::todo) cs s):JL J Q b n L ds (.inRegion ops K::todo) cs s:=h O
theorem Rv{K A:Type}{c:Code}{body:K->Option (Bq K A)}{f:Nat}{O:K}{a:A}(U:iter body f O=some a)(I:Env->St->K->Prop)(Y:I L s O)
  (round:∀L s x,I L s x->(∀V,body x=some (.done V)->V=a)->(∃st,body x=some st)->(∀L' s' x',I L' s' x'->body x=some (.more x')->JL J Q b n L' ds (.inLoop c::k) cs s')->JL J Q b n L ds (.code c:: .inLoop c::k) cs s):
  JL J Q b n L ds (.code (.loop c)::k) cs s:=by
 refine HX ?_
 induction f generalizing L s O with
 | zero=>cases U
 | succ f Z=>
  refine round L s O Y (λV h=>Rb U h) (Ra U) λL' s' x' ac hb=>JL.again (Z (Q1 U hb) ac)
def AM(J:Judge P)(f:FuncId)(args:Lv_)(E:LH)(B:Seg)(R:Value->LH->Seg->Prop):Prop:=
 ∀H,Nd E H B->EF J f args.toArray (mk E H B) (λv s'=>∃E' B',Le E E'/\R v E' B'/\Nd E' H B'/\s'=mk E' H B')
theorem AM.enter{f:FuncId}{fn:Func}{c:Code}{vs:Lv_}{B:Seg}{R:Value->LH->Seg->Prop}(O:P.funcs[f]? =some fn)(hb:fn.body=some c)(U:vs.length<=fn.ntmps)
  (h:∀(Q:Gs_) (K:Frame) (cs:Lf_) (H:LH),Ap E H [B]->(∀v E' S' B',Le E E'->S'.flatten=B'->R v E' B'->Ap E' H S'->J.ok Q (G (K.finish v) cs) (Aj E' H S'))->JL J Q (base f) fn.ntmps (F1 0 vs) [] [.code c] (K::cs) (Aj E H [B])):AM J f vs E B R:=λH V=>
 EF.enter O hb U λQ K cs Y=>by
  have Z:mk E H B=Aj E H [B]:=by unfold Aj;simp
  rw [Z];exact h Q K cs H (by unfold Ap;simpa using V) λv E' S' B' hle ac ag al=>by
   subst ac;exact Y v _ ⟨E',S'.flatten,hle,ag,al,rfl⟩
theorem AM.Ag{f:FuncId}{vs:Lv_}{B:Seg}{R K:Value->LH->Seg->Prop}(h:AM J f vs E B R)(U:∀v E' B',Le E E'->R v E' B'->K v E' B'):AM J f vs E B K:=λH V=>
 (h H V).Ag λv s' ⟨E',B',O,Y,Z,ac⟩=>⟨E',B',O,U v E' B' O Y,Z,ac⟩
theorem FZ{H:LH}:∀{A B:List (Nat×Obj)},Bl (A++B) H=Bl A (Bl B H)
 | [],_=>rfl
 | (c,o)::A,B=>by
  funext x
  simp only [List.cons_append,Bl]
  split
  ·rfl
  ·rw [FZ]
theorem MO{H:LH}{x:Nat}:∀{B:List (Nat×Obj)},(∀p∈B,p.1≠x)->Bl B H x=H x
 | [],_=>rfl
 | (c,u)::B,K=>by
  have O:x≠c:=λe=>K (c,u) (by simp) e.symm
  simp only [Bl,if_neg O]
  exact MO λp U=>K p (List.mem_cons_of_mem _ U)
theorem Nd.front{A B:List (Nat×Obj)}(h:Nd E H (A++B)):Nd E (Bl B H) A:=by
 rw [Nd.iff] at h ⊢;obtain⟨K,U⟩:=h;rw [List.map_append,List.nodup_append] at K;refine⟨K.1,λq O=>⟨(U q (List.mem_append_left _ O)).1,?_⟩⟩;rw [MO λr V e=>K.2.2 q.1 (List.mem_map_of_mem O) r.1 (List.mem_map_of_mem V) e.symm];exact(U q (List.mem_append_left _ O)).2
theorem Nd.glue{A B:List (Nat×Obj)}(h:Nd E (Bl B H) A)(U:Nd E H B):Nd E H (A++B):=by
 have V:=U;rw [Nd.iff] at h U ⊢;rw [List.map_append,List.nodup_append];have key:∀q∈A,∀r∈B,q.1≠r.1:=λq K r O e=>by
  have:=(h.2 q K).2;rw [e] at this;obtain⟨i,hi⟩:=V.mem (b:=r.1) (o:=r.2) O;rw [IZ V hi] at this;cases this
 refine⟨⟨h.1,U.1,λx Y y Z e=>?_⟩,λq K=>?_⟩
 ·obtain⟨q,K,rfl⟩:=List.mem_map.1 Y;obtain⟨r,O,rfl⟩:=List.mem_map.1 Z;exact key q K r O e
 ·rcases List.mem_append.1 K with K | K
  ·refine⟨(h.2 q K).1,?_⟩;have:=(h.2 q K).2
   rwa [MO λr O e=>key q K r O e.symm] at this
  ·exact U.2 q K
theorem RF{f:FuncId}{args:Array Operand}{ats:Array TypeId}{vs:Lv_}{seg:Seg}{R:Value->LH->Seg->Prop}(j:Nat)
  (ac:AM J f vs E seg R) (ag:ops[i]? =some ⟨d,.call ⟨.value (.func f),args,ats⟩,ty,p,af,g⟩) (hw:AR L ops ⟨d,.call ⟨.value (.func f),args,ats⟩,ty,p,af,g⟩=some true) (al:((b.kind != .early)&&Bg n d)=true) (hb:Du P f=true)
  (am:evs L args.toList=some vs) (K:Ap E H S) (O:S[j]? =some seg) (ap:∀v E' seg',Le E E'->R v E' seg'->Ap E' H (S.set j seg')->JL J Q b n (As L d v) ds (.inRegion ops rest::k) cs (Aj E' H (S.set j seg'))):
  JL J Q b n L ds (.inRegion ops (i::rest)::k) cs (Aj E H S):=by
 have U:S.flatten.Perm (seg++(S.set j []).flatten):=(Ey (seg':=seg) O).1.trans List.perm_append_comm;have V:Nd E H (seg++(S.set j []).flatten):=Nd.perm K U;have aq:Aj E H S=mk E (Bl (S.set j []).flatten H) seg:=by
  rw [show Aj E H S=mk E H S.flatten from rfl,Fi K U];unfold mk;rw [FZ]
 rw [aq];refine Xo ag hw al hb am (ac _ (Nd.front V)) ?_;rintro v s' ⟨E',B',hle,aw,ay,rfl⟩;have e2:mk E' (Bl (S.set j []).flatten H) B'=mk E' H (B'++(S.set j []).flatten):=by unfold mk;rw [FZ]
 have az:Nd E H (S.set j []).flatten:=by
  have:=V;rw [Nd.iff] at this ⊢;rw [List.map_append,List.nodup_append] at this;exact⟨this.1.2.1,λq a0=>this.2 q (List.mem_append_right _ a0)⟩
 refine SQ rfl λ⟨w,a1⟩=>?_;have a2:Nd E' H (S.set j []).flatten:=az.grow λx a3=>by
  have a4:=a1.d x a3;have a5:Bl B' (Bl (S.set j []).flatten H) x=none:=a4;exact(HU a5).1
 have Y:Nd E' H (B'++(S.set j []).flatten):=Nd.glue ay a2;rw [e2];have Z:(B'++(S.set j []).flatten).Perm (S.set j B').flatten:=List.perm_append_comm.trans (Ey O).2.symm;rw [Fi Y Z];exact ap v E' B' hle aw (Nd.perm Y Z)
theorem JS.call{f:FuncId}{args:Array Operand}{ats:Array TypeId}{vs:Lv_}{R:Value->LH->Seg->Prop}
  (U:AM J f vs E [] R) (V:ops[i]? =some ⟨d,.call ⟨.value (.func f),args,ats⟩,ty,p,af,g⟩) (hw:AR L ops ⟨d,.call ⟨.value (.func f),args,ats⟩,ty,p,af,g⟩=some true) (Y:((b.kind != .early)&&Bg n d)=true) (hb:Du P f=true)
  (Z:evs L args.toList=some vs) (K:Ap E H S) (ac:∀v E' seg',Le E E'->R v E' seg'->Ap E' H (S++ [seg'])->JL J Q b n (As L d v) ds (.inRegion ops rest::k) cs (Aj E' H (S++ [seg']))):
  JL J Q b n L ds (.inRegion ops (i::rest)::k) cs (Aj E H S):=by
 have ag:Aj E H S=Aj E H (S++ [[]]):=by unfold Aj;simp
 rw [ag];refine RF S.length U V hw Y hb Z (by unfold Ap at K ⊢;rw [Gg,List.append_nil];exact K) (by simp) λv E' seg' hle al O=>?_;have e2:(S++ [[]]).set S.length seg'=S++ [seg']:=H4 _ _ _ _;rw [e2] at O ⊢;exact ac v E' seg' hle al O
theorem H2{todo:Li_}{S':List Seg}(K:S'.flatten=S.flatten)(O:Ap E H S)(h:Ap E H S'->JL J Q b n L ds todo cs (Aj E H S')):JL J Q b n L ds todo cs (Aj E H S):=by
 unfold Aj Ap at*;rw [K] at h;exact h O
end
def Ld(P:Program)(t:TypeId)(a:Addr)(s:St)(v:Value):Prop:=lp P (loadVar t a) s (λu s'=>u=v/\s'=s) (λ_ _=>False)
theorem Ld.one{P:Program}{t:TypeId}{a:Addr}{s:St}{v:Value}(K:Dr P t=some false)(h:s.cell? a=some v):Ld P t a s v:=Qx K h ⟨V,V⟩
theorem Ld.many{P:Program}{t:TypeId}{a:Addr}{s:St}{vs:Lv_}(K:Dr P t=some true)(O:Bo P t=some vs.length)(h:∀j v,vs[j]? =some v->s.cell? (a.add j)=some v):Ld P t a s (.agg vs.toArray):=QA K O h ⟨V,V⟩
def RV(P:Program)(L:Env)(s:St):List ResultVar->Lv_->Prop
 | [],[]=>True
 | .tmp t::rs,v::vs=>look L t=some v/\RV P L s rs vs
 | .cell a t::rs,v::vs=>(∃ad,look L a=some (.pointer (some ad))/\Ld P t ad s v)/\RV P L s rs vs
 | _,_=>False
def Nf:Lv_->Value
 | [v]=>v
 | vs=> .tuple vs.toArray
theorem Vp(vs:Lv_):(if h:vs.toArray.size=1 then vs.toArray[0] else Value.tuple vs.toArray)=Nf vs:=by
 match vs with
 | []=>rfl
 | [v]=>rfl
 | a::b::c=>simp [Nf]
theorem BB.list{P:Program}{f:FuncId}{fn:Func}{n:Nat}{L:Env}{s:St}{rs:List ResultVar}{vs:Lv_}(Y:P.funcs[f]? =some fn)(Z:fn.results.toList=rs)(h:RV P L s rs vs):BB P f L n s (Nf vs):=by
 refine⟨fn,Y,λT U=>?_⟩;unfold results;rw [Array.mapM_eq_mapM_toList,Z];have key:∀(rs:List ResultVar) (acc vs:Lv_) {Q:Lv_->St->Prop} {X:Halt->St->Prop},RV P L s rs vs->Q (acc.reverse++vs) s->lp P (List.mapM.loop (m:=Sem) (λr=>match r with
   | .tmp t=>pure (T.getD t undef)
   | .cell a t=>do loadVar t (← asAddr (T.getD a undef))) rs acc) s Q X:=by
  intro rs
  induction rs with
  | nil=>
   intro acc vs Q X h k;cases vs with
   | nil=>simp only [List.append_nil] at k;exact k
   | cons v vs=>cases h
  | cons r rs V=>
   intro acc vs Q X h k;cases vs with
   | nil=>cases r <;> cases h
   | cons v vs=>
    cases r with
    | tmp t=>
     obtain⟨K,O⟩:=h;have:=U.at_ t v K;simp only [List.mapM.loop];rw [this];exact V (v::acc) vs O (by simpa using k)
    | cell a t=>
     obtain⟨⟨ad,K,ac⟩,O⟩:=h;have:=U.at_ a _ K;simp only [List.mapM.loop];rw [this];refine Ar _ _ (DO _ (show lp P (loadVar t ad) s _ _ from ac) ?_ (λ_ _ h=>h.elim));rintro u s' ⟨rfl,rfl⟩;exact V (u::acc) vs O (by simpa using k)
 refine Ar _ _ (Ar (x:=List.mapM.loop (m:=Sem) _ rs []) (f:=λr=>pure r.toArray) ?_);refine key rs [] vs h ?_;simp only [List.reverse_nil,List.nil_append,lp,pure];exact⟨Vp vs,trivial⟩
section
variable {g:Goroutine}
theorem DF{seg:Seg}(j:Nat)(Y:Ap E H S)(U:S[j]? =some seg)(h:Ap E H (S.set j [])->J.ok Q g (Aj E H (S.set j []))):J.ok Q g (Aj E H S):=by
 obtain⟨Z,K⟩:=Gk Y U;have ac:Nd E H ((S.set j []).flatten++ []):=by rw [List.append_nil];exact J7.Nd.left K
 obtain⟨ap,ag⟩:=H5 (seg':= []) U ac;refine J.ghost (s₀:=Aj E H (S.set j [])) ⟨λ_ _ h=>h,λx o al=>?_,λ_ _ h=> .inl h,rfl⟩ (h ag);have V:Bl (S.set j []).flatten H x=some o:=al;show(Aj E H S).H x=some o;rw [Z];show Bl ((S.set j []).flatten++seg) H x=some o;rw [show Bl ((S.set j []).flatten++seg) H=Bl (seg++(S.set j []).flatten) H from QI K List.perm_append_comm,FZ];by_cases hm:∃p∈seg,p.1=x
 ·exfalso;obtain⟨p,O,e⟩:=hm;have am:=Nd.front (Nd.perm K List.perm_append_comm);have:=((Nd.iff.1 am).2 p O).2;rw [e,V] at this;cases this
 ·rw [MO λp O e=>hm ⟨p,O,e⟩];exact V
end
section
variable {b:Frame}{n:Nat}
variable {x:Operand}{v:Value}{i:Nat}
theorem Q8{ρ:Operand->Value}{len:Nat}{K:Array (Nat×Operand)}:execOp ρ ⟨d,.buildSlice t len K,ty,p,af,g⟩=(do pure (Next.value (← Instr.buildSlice t len (K.map λ(j,x)=>(j,ρ x))))):=by
 simp only [execOp]
theorem Vs(v:Av_)(off:Nat)(c:Av_):v.zipIdx.foldl (λcs (x,j)=>cs.setIfInBounds (off+j) x) c=A7 c off v.toList:=by
 rw [← Array.foldl_toList,Array.toList_zipIdx];have key:∀(l:Lv_) (st:Nat) (c:Av_),List.foldl (λcs (p:Value×Nat)=>cs.setIfInBounds (off+p.2) p.1) c (l.zipIdx st)=A7 c (off+st) l:=by
  intro l
  induction l with
  | nil=>intro st c;rfl
  | cons x l K=>intro st c;simp only [List.zipIdx_cons,List.foldl_cons,A7];rw [K];rfl
 exact key v.toList 0 c
def Kk(place:Nat->Option (Nat×Nat))(cells:Av_):List (Nat×Value)->Option (Av_)
 | []=>some cells
 | (i,v)::rest=>match place i with
  | none=>none
  | some (off,size)=>if v.cells.size=size/\off+v.cells.size<=cells.size then Kk place (A7 cells off v.cells.toList) rest else none
theorem fill_eq{place:Nat->Option (Nat×Nat)}:∀{vs:List (Nat×Value)} {cells:Av_},Instr.fill place cells vs=Kk place cells vs
 | [],_=>rfl
 | (i,v)::rest,cells=>by
  simp only [Instr.fill,Kk]
  cases place i with
  | none=>rfl
  | some q=>
   obtain⟨off,size⟩:=q
   simp only
   by_cases h:v.cells.size=size/\off+v.cells.size<=cells.size
   ·rw [if_pos h,if_neg (by simp only [Bool.or_eq_true,decide_eq_true_eq,ne_eq];omega),fill_eq,Vs]
   ·rw [if_neg h,if_pos (by simp only [Bool.or_eq_true,decide_eq_true_eq,ne_eq];omega)]
theorem RY{n:Nat}:∀(vs:Lv_) (st:Nat) (cells:Av_),(∀v∈vs,v.cells.size=n)->cells.size=(st+vs.length)*n->
  ∃U,Kk (λi=>some (i*n,n)) cells ((vs.zipIdx st).map λq=>(q.2,q.1))=some U/\U.toList=cells.toList.take (st*n)++(vs.map (·.cells.toList)).flatten
 | [],st,cells,_,K=>⟨cells,rfl,by simp only [List.length_nil,Nat.add_zero] at K;simp [← K,List.take_of_length_le]⟩
 | v::vs,st,cells,V,K=>by
  have O:=V v (by simp)
  have hle:st*n+n<=cells.size:=by
   rw [K,List.length_cons];have:(st+1)*n<=(st+(vs.length+1))*n:=Nat.mul_le_mul_right _ (by omega);rw [Nat.succ_mul] at this;exact this
  obtain⟨Y,Z,ac⟩:=RY vs (st+1) (A7 cells (st*n) v.cells.toList) (λu hu=>V u (List.mem_cons_of_mem _ hu)) (by rw [Lw,K,List.length_cons];congr 1;omega);refine⟨Y,?_,?_⟩
  ·simp only [List.zipIdx_cons,List.map_cons,Kk];rw [if_pos ⟨O,by omega⟩];exact Z
  ·rw [ac,Nat.succ_mul];have:=Ob cells (st*n) v.cells.toList (by simp [O];omega);rw [show v.cells.toList.length=n by simp [O]] at this;rw [this];simp
def Ku{α:Type}(pp:Rp α)(E:LH):List α->Lv_->Prop
 | [],[]=>True
 | x::xs,v::vs=>pp.r E v.cells.toList x/\Ku pp E xs vs
 | _,_=>False
theorem Ku.at{E:LH}{α:Type}{pp:Rp α}:∀{xs:List α} {vs:Lv_},Ku pp E xs vs->∀(i:Nat) x v,xs[i]? =some x->vs[i]? =some v->pp.r E v.cells.toList x
 | [],_,_,_,_,_,h,_=>by simp at h
 | _::_,[],h,_,_,_,_,_=>h.elim
 | x::xs,v::vs,h,0,y,u,K,hu=>by simp at K hu;subst K hu;exact h.1
 | x::xs,v::vs,h,i+1,y,u,K,hu=>Ku.at h.2 i y u (by simpa using K) (by simpa using hu)
theorem S5{E0:LH}{ρ:Operand->Value}{K:Next->St->Prop}(ay:EP L ρ){α:Type}{pp:Rp α}{len:Nat}{Y:Array (Nat×Operand)}(vs:Lv_){z:Value}(xs:List α)
  (az:P.underlying t=some (.slice e)) (a0:Bo P e=some pp.n) (a1:zeroOf P e=some z) (a2:decide (0<len*pp.n/\len*pp.n<=2 ^ 24)=true)
  (a3:Y.toList.mapM (λq=>(ev L q.2).map λv=>(q.1,v))=some ((vs.zipIdx 0).map λq=>(q.2,q.1)))
  (U:vs.length=len) (V:xs.length=len) (a4:Ku pp E0 xs vs) (a5:Ap E H S)
  (h:∀r seg,OL e pp E0 (some ⟨r,0,none⟩) len seg xs->Ap E H (S++ [seg])->K (.value (.slice (some ⟨r,0,none⟩) xs.length len)) (Aj E H (S++ [seg]))):
  lp P (execOp ρ ⟨d,.buildSlice t len Y,ty,p,af,g⟩) (Aj E H S) K (λ_ _=>False):=by
 have al:=a4.at;have a6:(Y.map λ(j,x)=>(j,ρ x)).toList=(vs.zipIdx 0).map λq=>(q.2,q.1):=by
  have key:∀(l:List (Nat×Operand)) (vs:List (Nat×Value)),l.mapM (λq=>(ev L q.2).map λv=>(q.1,v))=some vs->l.map (λ(j,x)=>(j,ρ x))=vs:=by
   intro l
   induction l with
   | nil=>intro vs h;simp at h;subst h;rfl
   | cons q l Z=>
    intro vs h;simp only [List.mapM_cons,bind] at h;cases ac:ev L q.2 with
    | none=>rw [ac] at h;simp at h
    | some w=>
     rw [ac] at h;simp only [Option.map_some,Option.bind_some] at h;obtain⟨a7,a8,am⟩:=bind_some h;simp at am;subst am;simp [Z a7 a8,ay _ _ ac]
  rw [Array.toList_map];exact key _ _ a3
 have ap:∀v∈vs,v.cells.size=pp.n:=λv O=>by
  obtain⟨i,hi⟩:=List.mem_iff_getElem?.1 O;have a9:i<xs.length:=by rw [V,← U];exact(List.getElem?_eq_some_iff.1 hi).1
  simpa using pp.len (al i _ v (List.getElem?_eq_getElem a9) hi)
 rw [Q8];refine Ar _ _ ?_;unfold Instr.buildSlice;refine Ar _ _ (Ce az ?_);refine Ar _ _ (EJ a0 ?_);have be:=of_decide_eq_true a2;rw [if_neg (by omega),if_neg (by omega)];refine Ar (x:=zeroValue e) _ (GQ a1 ?_);rw [HV,a6];obtain⟨cells,bb,ag⟩:=RY vs 0 ((Array.range (len*pp.n)).map (z.cells[· % z.cells.size]!)) ap (by simp [U]);simp only [fill_eq,bb];simp only [Nat.zero_mul,List.take_zero,List.nil_append] at ag;refine Ar _ _ (IU a5 λr aq=>?_);rw [(Fh aq).1];have aw:cells.size=len*pp.n:=by
  have:cells.toList.length=len*pp.n:=by
   rw [ag];have:∀(vs:Lv_),(∀v∈vs,v.cells.size=pp.n)->(vs.map (·.cells.toList)).flatten.length=vs.length*pp.n:=by
    intro vs
    induction vs with
    | nil=>intro _;simp
    | cons v vs Z=>intro h;rw [List.map_cons,List.flatten_cons,List.length_append,Z λw hw=>h w (List.mem_cons_of_mem _ hw),List.length_cons,Nat.succ_mul,Nat.add_comm];simp [h v (by simp)]
   rw [this vs ap,U]
  simpa using this
 have:=h r [(r,.cells cells e (0,0))] ⟨vs.map (·.cells.toList),.inr ⟨r,cells,rfl,rfl,aw,by omega,by rw [← ag,List.take_of_length_le (by simp [aw,V])]⟩,by simp [U,V],λi x ws bd hw=>by
  rw [List.getElem?_map] at hw
  cases O:vs[i]? with
  | none=>rw [O] at hw;cases hw
  | some v=>rw [O] at hw;cases hw;exact al i x v bd O⟩ (Fh aq).2
 rw [V] at this;exact this
theorem Da{α:Type}{pp:Rp α}{len:Nat}{K:Array (Nat×Operand)}(vs:Lv_){z:Value}(xs:List α)
  (O:ops[i]? =some ⟨d,.buildSlice t len K,ty,p,af,g⟩) (hw:AR L ops ⟨d,.buildSlice t len K,ty,p,af,g⟩=some true) (U:BJ b n ⟨d,.buildSlice t len K,ty,p,af,g⟩=true)
  (V:P.underlying t=some (.slice e)) (Y:Bo P e=some pp.n) (Z:zeroOf P e=some z) (ac:decide (0<len*pp.n/\len*pp.n<=2 ^ 24)=true)
  (ag:K.toList.mapM (λq=>(ev L q.2).map λv=>(q.1,v))=some ((vs.zipIdx 0).map λq=>(q.2,q.1)))
  (al:vs.length=len) (am:xs.length=len) (ap:Ku pp E xs vs) (aq:Ap E H S)
  (h:∀r seg,OL e pp E (some ⟨r,0,none⟩) len seg xs->Ap E H (S++ [seg])->JL J Q b n (As L d (.slice (some ⟨r,0,none⟩) xs.length len)) ds (.inRegion ops rest::k) cs (Aj E H (S++ [seg]))):
  JL J Q b n L ds (.inRegion ops (i::rest)::k) cs (Aj E H S):=by
 exact JL.op O hw U λρ aw=>S5 aw vs xs V Y Z ac ag al am ap aq h
theorem OL.get{α:Type}{pp:Rp α}{a:Option Addr}{c:Nat}{seg:Seg}{xs:List α}{m:Nat}{x:α}(Y:OL e pp E a c seg xs)(hm:xs[m]? =some x):
  ∃bk f ws,a=some ⟨bk,0,none⟩/\seg= [(bk,.cells f e (0,0))]/\pp.r E ws x/\(∀j w,ws[j]? =some w->f[m*pp.n+j]? =some w)/\(m+1)*pp.n<=f.size/\
   ∀(x':α) (ws':Lv_),pp.r E ws' x'->OL e pp E a c [(bk,.cells (A7 f (m*pp.n) ws') e (0,0))] (xs.set m x'):=by
 obtain⟨wss,Y,al,Z⟩:=Y;have am:m<xs.length:=(List.getElem?_eq_some_iff.1 hm).1;rcases Y with⟨ac,ap,_⟩ | ⟨bk,f,ac,ap,a2,aq,aw⟩
 ·omega
 have hw:wss[m]? =some wss[m]:=List.getElem?_eq_getElem (by omega);have ay:=H0 al Z;have hle:(m+1)*pp.n<=xs.length*pp.n:=Nat.mul_le_mul_right _ am;have a5:xs.length*pp.n<=c*pp.n:=Nat.mul_le_mul_right _ aq;refine⟨bk,f,wss[m],ac,ap,Z m x _ hm hw,λj w K=>?_,by omega,λx' ws' az=>?_⟩
 ·have:=J5 ay hw j w K;rw [aw,List.getElem?_take] at this;split at this
  ·simpa using this
  ·cases this
 ·have a0:ws'.length=pp.n:=pp.len az;refine⟨wss.set m ws',.inr ⟨bk,_,ac,rfl,by rw [Lw];exact a2,by simpa using aq,?_⟩,by simpa using al,λi y us V hu=>?_⟩
  ·simp only [List.length_set];have key:∀(wss:List (Lv_)) (m:Nat) (hm:m<wss.length),(∀ws∈wss,ws.length=pp.n)->∀j,(wss.set m ws').flatten[j]? =if m*pp.n<=j/\j<(m+1)*pp.n then ws'[j - m*pp.n]? else wss.flatten[j]? :=by
    intro wss
    induction wss with
    | nil=>intro m hm;simp at hm
    | cons us wss ag=>
     intro m hm a1 j;have hu:us.length=pp.n:=a1 us (by simp);cases m with
     | zero=>
      simp only [List.set_cons_zero,List.flatten_cons,Nat.zero_mul,Nat.zero_le,true_and,Nat.zero_add,Nat.one_mul,Nat.sub_zero];split
      ·rename_i K;rw [List.getElem?_append_left (by omega)]
      ·rename_i K;rw [List.getElem?_append_right (by omega),List.getElem?_append_right (by omega),a0,hu]
     | succ m=>
      simp only [List.set_cons_succ,List.flatten_cons];have O:(m+1)*pp.n=m*pp.n+pp.n:=Nat.succ_mul _ _;have e2:(m+1+1)*pp.n=(m+1)*pp.n+pp.n:=Nat.succ_mul _ _;rcases Nat.lt_or_ge j us.length with K | K
      ·rw [List.getElem?_append_left K,List.getElem?_append_left K,if_neg (by omega)]
      ·rw [List.getElem?_append_right K,List.getElem?_append_right K,ag m (by simpa using hm) (λws a3=>a1 ws (List.mem_cons_of_mem _ a3))];by_cases U:m*pp.n<=j - us.length/\j - us.length<(m+1)*pp.n
       ·rw [if_pos U,if_pos (by omega)];congr 1;omega
       ·rw [if_neg U,if_neg (by omega)]
   have a4:∀(vs:Lv_) (c:Av_) (off:Nat),off+vs.length<=c.size->∀j,(A7 c off vs)[j]? =if off<=j/\j<off+vs.length then vs[j - off]? else c[j]? :=by
    intro vs
    induction vs with
    | nil=>intro c off _ j;simp [A7];omega
    | cons w vs ag=>
     intro c off U j;simp only [A7,List.length_cons] at*;rw [ag _ _ (by simp;omega)];by_cases O:j=off
     ·subst O;rw [if_neg (by omega),if_pos (by omega),Nat.sub_self,List.getElem?_cons_zero,Array.getElem?_setIfInBounds_self_of_lt (by omega)]
     ·by_cases e2:off+1<=j/\j<off+1+vs.length
      ·rw [if_pos e2,if_pos (by omega)];have:j - off=(j - (off+1))+1:=by omega
       rw [this];simp
      ·rw [if_neg e2,if_neg (by omega),Array.getElem?_setIfInBounds_ne (by omega)]
   apply List.ext_getElem?;intro j;have O:(m+1)*pp.n=m*pp.n+pp.n:=Nat.succ_mul _ _;have t1:(A7 f (m*pp.n) ws').toList[j]? =(A7 f (m*pp.n) ws')[j]? :=Array.getElem?_toList;have t2:f.toList[j]? =f[j]? :=Array.getElem?_toList;rw [key wss m (by omega) ay,List.getElem?_take,t1,a4 ws' f (m*pp.n) (by omega),aw,List.getElem?_take,t2,a0];by_cases U:m*pp.n<=j/\j<(m+1)*pp.n
   ·rw [if_pos U,if_pos (by omega),if_pos (by omega)]
   ·rw [if_neg U,if_neg (show ¬(m*pp.n<=j/\j<m*pp.n+pp.n) by omega)]
  ·rw [List.getElem?_set] at V hu;by_cases O:m=i
   ·subst O;rw [if_pos rfl,if_pos am] at V;rw [if_pos rfl,if_pos (by omega)] at hu;cases V;cases hu;exact az
   ·rw [if_neg O] at hu V;exact Z i y us V hu
theorem KS{α:Type}{pp:Rp α}{a:Option Addr}{c:Nat}{seg:Seg}{xs:List α}{xv:α}{m:Int}(j:Nat)(O:OL e pp E a c seg xs)(hm:ix xs m=some xv)(U:S[j]? =some seg)
  (V:ops[i]? =some ⟨d,.indexAddr t x y,ty,p,af,g⟩) (hw:AR L ops ⟨d,.indexAddr t x y,ty,p,af,g⟩=some true) (Y:BJ b n ⟨d,.indexAddr t x y,ty,p,af,g⟩=true)
  (Z:ev L x=some (.slice a xs.length c)) (ac:ev L y=some (.int kd m)) (ag:P.underlying t=some (.slice e)) (al:Bo P e=some pp.n)
  (h:∀bk o f ws,S[j]? =some [(bk,.cells f e (0,0))]->pp.r E ws xv->(∀j w,ws[j]? =some w->f[o+j]? =some w)->o+pp.n<=f.size->(∀(x':α) (ws':Lv_),pp.r E ws' x'->OL e pp E a c [(bk,.cells (A7 f o ws') e (0,0))] (xs.set m.toNat x'))->o=m.toNat*pp.n->a=some ⟨bk,0,none⟩->
   JL J Q b n (As L d (.pointer (some ⟨bk,o,none⟩))) ds (.inRegion ops rest::k) cs (Aj E H S)):
  JL J Q b n L ds (.inRegion ops (i::rest)::k) cs (Aj E H S):=by
 obtain⟨m,rfl,hm⟩:=Gl hm;have a0:m<xs.length:=(List.getElem?_eq_some_iff.1 hm).1;obtain⟨bk,f,ws,rfl,rfl,am,ap,aq,aw⟩:=OL.get O hm;have ay:(m+1)*pp.n=m*pp.n+pp.n:=Nat.succ_mul _ _;have az:m*pp.n+pp.n<=f.size:=by rw [← ay];exact aq
 refine A4 (v:= .pointer (some ⟨bk,m*pp.n,none⟩)) V hw Y (λρ K=>?_) (h bk (m*pp.n) f ws U am ap az (by simpa using aw) (by simp) rfl);have:=MM (P:=P) (s:=Aj E H S) (d:=d) (ty:=ty) (p:=p) (af:=af) (g:=g) ag al (K x _ Z) (K y _ ac) ⟨by omega,by omega⟩;rw [Ei rfl] at this;simpa using this
end
section
variable {b:Frame}{n:Nat}
variable {x:Operand}{v:Value}{i:Nat}
theorem JS.perm{todo:Li_}{S':List Seg}(K:S.flatten.Perm S'.flatten)(O:Ap E H S)(h:Ap E H S'->JL J Q b n L ds todo cs (Aj E H S')):JL J Q b n L ds todo cs (Aj E H S):=by
 have U:Ap E H S':=Nd.perm O K;rw [show Aj E H S=Aj E H S' from Fi O K];exact h U
theorem Gj{todo:Li_}{A B:Seg}(j:Nat)(K:S[j]? =some (A++B))(O:Ap E H S)(h:Ap E H (S.set j A++ [B])->JL J Q b n L ds todo cs (Aj E H (S.set j A++ [B]))):JL J Q b n L ds todo cs (Aj E H S):=by
 refine JS.perm ?_ O h;have U:=(Ey (seg':=A) K).1;have V:=(Ey (seg':=A) K).2;rw [Gg];refine U.trans ?_;have Y:=V.symm.append_right B
 rwa [List.append_assoc] at Y
theorem JS.swap{todo:Li_}{A B:Seg}(j l:Nat)(O:S[j]? =some A)(U:S[l]? =some B)(V:(j==l)=false)(Y:Ap E H S)(h:Ap E H ((S.set j B).set l A)->JL J Q b n L ds todo cs (Aj E H ((S.set j B).set l A))):JL J Q b n L ds todo cs (Aj E H S):=by
 have K:j≠l:=by simpa using V
 refine JS.perm ?_ Y h;have a1:=(Ey (seg':=B) O).1;have Z:(S.set j [])[l]? =some B:=by rw [List.getElem?_set_ne K];exact U
 have ac:=(Ey (seg':=A) Z).1;have ag:((S.set j B).set l A)[l]? =some A:=by
  have:l<(S.set j B).length:=by rw [List.length_set];exact(List.getElem?_eq_some_iff.1 U).1
  rw [List.getElem?_set,if_pos rfl,if_pos this]
 have c1:=(Ey (seg':=A) ag).1;rw [List.set_set] at c1;have al:((S.set j B).set l [])[j]? =some B:=by
  have:j<S.length:=(List.getElem?_eq_some_iff.1 O).1;rw [List.getElem?_set_ne (Ne.symm K)];simp [this]
 have c2:=(Ey (seg':=B) al).1;have am:(((S.set j B).set l []).set j [])=((S.set j []).set l []):=by
  rw [List.set_comm _ _ K,List.set_set,List.set_comm _ _ K.symm]
 rw [am] at c2;exact a1.trans ((ac.append_right A).trans ((c2.symm.append_right A).trans c1.symm))
theorem EY{bk off:Nat}{c:Av_}{f:Nat×Nat}{vs:Lv_}{seg:Seg}(j:Nat)(K:Ap E H S)(O:S[j]? =some ((bk,.cells c e f)::seg))(U:(c.toList.drop off).take vs.length=vs):∀i v,vs[i]? =some v->(Aj E H S).cell? (Addr.add ⟨bk,off,none⟩ i)=some v:=
 VB K O λi v hi=>by
  have V:i<vs.length:=(List.getElem?_eq_some_iff.1 hi).1
  rw [← U,List.getElem?_take_of_lt V,List.getElem?_drop,Array.getElem?_toList] at hi
  exact hi
theorem Lz(vs:Lv_):∀(c:Av_) (off:Nat),off+vs.length<=c.size->∀j,(A7 c off vs)[j]? =if off<=j/\j<off+vs.length then vs[j - off]? else c[j]? :=by
 induction vs with
 | nil=>intro c off _ j;simp [A7];omega
 | cons w vs K=>
  intro c off U j;simp only [A7,List.length_cons] at*;rw [K _ _ (by simp;omega)];by_cases O:j=off
  ·subst O;rw [if_neg (by omega),if_pos (by omega),Nat.sub_self,List.getElem?_cons_zero,Array.getElem?_setIfInBounds_self_of_lt (by omega)]
  ·by_cases e2:off+1<=j/\j<off+1+vs.length
   ·rw [if_pos e2,if_pos (by omega)];have:j - off=(j - (off+1))+1:=by omega
    rw [this];simp
   ·rw [if_neg e2,if_neg (by omega),Array.getElem?_setIfInBounds_ne (by omega)]
end
theorem elim_inl{α β K:Type}{f:α->Option K}{g:β->Option K}{x:α}{r:K}(h:Sum.elim f g (.inl x)=some r):f x=some r:=h
theorem elim_inr{α β K:Type}{f:α->Option K}{g:β->Option K}{x:β}{r:K}(h:Sum.elim f g (.inr x)=some r):g x=some r:=h
def room{α:Type}(xs:List α)(x:α):Option (List α):=if xs.length+1<=2 ^ 40 then some (xs++ [x]) else none
theorem WE{α:Type}{xs ys:List α}{x:α}(h:room xs x=some ys):xs.length+1<=2 ^ 40/\ys=xs++ [x]:=by
 unfold room at h;split at h
 ·rename_i hb;exact⟨hb,(Option.some.inj h).symm⟩
 ·cases h
section
variable {x:Operand}{v:Value}{m:Int}{a b:Nat}
theorem Yl.min2{ats:Array TypeId}(K:ρ x=iV m)(O:ρ y=iV m'):Yl P ⟨d,.call ⟨.builtin .min,#[x,y],ats⟩,ty,p,af,g⟩ ρ s (iV (min m m')):=by
 have e:(if m'<m then m' else m)=min m m':=by split <;> omega
 simp [Yl,execOp,lp,pure,bind,Sem.bind,K,O,resolve,invoke,builtin,Builtin.min_,Builtin.min2,e]
theorem Yl.max2{ats:Array TypeId}(K:ρ x=iV m)(O:ρ y=iV m'):Yl P ⟨d,.call ⟨.builtin .max,#[x,y],ats⟩,ty,p,af,g⟩ ρ s (iV (max m m')):=by
 have e:(if m<m' then m' else m)=max m m':=by split <;> omega
 simp [Yl,execOp,lp,pure,bind,Sem.bind,K,O,resolve,invoke,builtin,Builtin.max_,Builtin.max2,e]
end
def Lb(P:Program):List Field->List (Nat×Nat)->Prop
 | f::K,(o,n)::O=>f.offset=o/\Bo P f.type=some n/\Lb P K O
 | [],[]=>True
 | _,_=>False
theorem Lb.mapM{P:Program}:∀{K:List Field} {O:List (Nat×Nat)},Lb P K O->K.mapM (λf=>(Bo P f.type).map λn=>(f.offset,n))=some O
 | [],[],_=>rfl
 | [],_::_,h=>h.elim
 | _::_,[],h=>h.elim
 | f::K,(o,n)::O,h=>by
  obtain⟨U,V,Y⟩:=h
  simp only [List.mapM_cons,bind,V,Option.map_some,Option.bind_some,Lb.mapM Y,U];rfl
theorem Ou{L:Env}{ρ:Operand->Value}(h:EP L ρ):∀{l:List (Nat×Operand)} {vs:List (Nat×Value)},l.mapM (λq=>(ev L q.2).map λv=>(q.1,v))=some vs->l.map (λ(j,x)=>(j,ρ x))=vs
 | [],vs,e=>by simp at e;subst e;rfl
 | q::l,vs,e=>by
  simp only [List.mapM_cons,bind] at e
  cases K:ev L q.2 with
  | none=>rw [K] at e;simp at e
  | some w=>
   rw [K] at e
   simp only [Option.map_some,Option.bind_some] at e
   obtain⟨V,U,O⟩:=bind_some e
   simp at O;subst O
   simp [Ou h U,h _ _ K]
theorem Ch{P:Program}{s:St}{ρ:Operand->Value}{L:Env}{d:Option Tmp}{t ty:TypeId}{p:String}{af:Ae_}{g:On_}{z:Value}{K:Array Field}{O:Array (Nat×Operand)}{vs:List (Nat×Value)}{cells:Av_}(places:List (Nat×Nat))(h:EP L ρ)(U:zeroOf P t=some z)(V:P.underlying t=some (.struct K))(Y:Lb P K.toList places)
  (Z:O.toList.mapM (λq=>(ev L q.2).map λv=>(q.1,v))=some vs) (ac:Kk (places.toArray[·]?) z.cells vs=some cells):Yl P ⟨d,.build t O,ty,p,af,g⟩ ρ s (.agg cells):=
 Yl.build (places:=places.toArray) U V (by simpa using Y.mapM) (Ou h Z) (by rw [fill_eq];exact ac)
theorem OL.again{α:Type}{e:TypeId}{pp:Rp α}{E:LH}{a:Option Addr}{bk c o:Nat}{f:Av_}{xs:List α}{m:Int}{x:α}(O:OL e pp E a c [(bk,.cells f e (0,0))] xs)(hm:ix xs m=some x)(U:o=m.toNat*pp.n):
  ∃ws,pp.r E ws x/\(∀j w,ws[j]? =some w->f[o+j]? =some w)/\o+pp.n<=f.size/\∀(x':α) (ws':Lv_),pp.r E ws' x'->OL e pp E a c [(bk,.cells (A7 f o ws') e (0,0))] (xs.set m.toNat x'):=by
 obtain⟨m,rfl,hm⟩:=Gl hm;obtain⟨am,ap,ws,aq,K,V,Y,Z,ac⟩:=OL.get O hm;simp only [List.cons.injEq,Prod.mk.injEq,Obj.cells.injEq,and_true] at K;obtain⟨rfl,rfl⟩:=K;have ag:(m+1)*pp.n=m*pp.n+pp.n:=Nat.succ_mul _ _;have al:o=m*pp.n:=by simpa using U
 subst al;exact⟨ws,V,Y,by rw [← ag];exact Z,by simpa using ac⟩
section
variable {b:Frame}{n:Nat}
variable {x:Operand}{v:Value}{i:Nat}
theorem JS.app{α:Type}{pp:Rp α}{t1 t2:TypeId}{K c:Nat}{a:Option Addr}{seg:Seg}{xs ys:List α}{xv:α}{Y:Nat}{d1:Tmp}{ats:Array TypeId}{O:TypeId}{U:String}{V:Ae_}{g':On_}{z:Value}(j:Nat)(ag:room xs xv=some ys)
  (al:ops[i]? =some ⟨some d1,.buildSlice t2 1 #[(0,y)],O,U,V,g'⟩) (hw:AR L ops ⟨some d1,.buildSlice t2 1 #[(0,y)],O,U,V,g'⟩=some true) (am:BJ b n ⟨some d1,.buildSlice t2 1 #[(0,y)],O,U,V,g'⟩=true)
  (ap:ops[Y]? =some ⟨d,.call ⟨.builtin .append,#[x,.tmp d1],ats⟩,ty,p,af,g⟩) (aq:∀w,AR (As L (some d1) w) ops ⟨d,.call ⟨.builtin .append,#[x,.tmp d1],ats⟩,ty,p,af,g⟩=some true) (aw:BJ b n ⟨d,.call ⟨.builtin .append,#[x,.tmp d1],ats⟩,ty,p,af,g⟩=true)
  (ay:∀w,ev (As L (some d1) w) x=some (.slice a xs.length c)) (az:ev L y=some v) (a0:ats[0]? =some t) (a1:ats[1]? =some t1) (a2:P.underlying t=some (.slice e)) (a3:P.underlying t1=some (.slice e)) (a4:P.underlying t2=some (.slice e)) (a5:Bo P e=some pp.n) (hb:FB P e=some K) (a6:zeroOf P e=some z) (a7:z.cells.size=pp.n)
  (a8:0<K) (a9:K<=64) (bb:0<pp.n) (bd:pp.n<=64) (be:OL e pp E a c seg xs) (bi:pp.r E v.cells.toList xv) (bn:Ap E H S) (bo:S[j]? =some seg)
  (h:∀w Z ac seg',OL e pp E Z ac seg' ys->Ap E H (S.set j seg')->JL J Q b n (As (As L (some d1) w) d (.slice Z ys.length ac)) ds (.inRegion ops rest::k) cs (Aj E H (S.set j seg'))):
  JL J Q b n L ds (.inRegion ops (i::Y::rest)::k) cs (Aj E H S):=by
 obtain⟨bv,rfl⟩:=WE ag;exact Vg j al hw am ap aq aw ay az a0 a1 a2 a3 a4 a5 hb a6 a7 a8 a9 bb bd bv be bi bn bo h
theorem AQ{todo:Li_}{S':List Seg}(K:S=S')(O:Ap E H S)(h:Ap E H S'->JL J Q b n L ds todo cs (Aj E H S')):JL J Q b n L ds todo cs (Aj E H S):=by
 subst K;exact h O
theorem Oy{todo:Li_}(K:Ap E H S)(h:Ap E H (S++ [[]])->JL J Q b n L ds todo cs (Aj E H (S++ [[]]))):JL J Q b n L ds todo cs (Aj E H S):=
 H2 (S':=S++ [[]]) (by rw [Gg,List.append_nil]) K h
end
theorem EF.La{P:Program}{J:Judge P}{f:FuncId}{args:Av_}{s:St}{R:Value->St->Prop}(h:EF J f args s R)(U:∀v s',R v s'->s'.q=false):EF J f args s (λv s'=>R v s'/\∃w,Fits s' w):=λQ c cs V=>
 h Q c cs λv s' K=>by
  by_cases O:∃w,Fits s' w
  ·exact V v s' ⟨K,O⟩
  ·exact J.step ⟨rfl,λw f=>absurd ⟨w,f⟩ O,λe=>by have:=U v s' K;subst e;cases this⟩
def AG(l:List Nat):Nat->Bool:=λx=>l.contains x
section
variable {b:Frame}{n:Nat}{m fuel:Nat}
variable {x:Operand}{v:Value}{i:Nat}
def Gp(ops:Ao_)(listed:Array Bool)(m i:Nat):Bool:=match ops[i]? with
 | some oi=>decide (i<m)&&Region.noSelect ops&& !DW oi.op&&IB ops listed i oi&&Hw ops listed&&listed.size==ops.size&&(Region.ready .any ops listed).contains i
 | none=>false
theorem Rs(m:Nat){id:Nat}(hm:P.follows .mixedOrders=true)(K:(b.kind != .early)=true)
  (O:DG ops m=true) (h:DG ops m=true->AO J Q b n ds ops k cs m C3 ops.size (Array.replicate ops.size false) L (Aj E H S)):JL J Q b n L ds (.code (.region id ops true)::k) cs (Aj E H S):=
 OA m C3 V hm K (h O)
theorem Q2{oi:Oper}{i:Nat}(hi:ops[i]? =some oi)(K:Gp ops listed m i=true):decide (i<m)=true/\Region.noSelect ops=true/\(!DW oi.op)=true/\IB ops listed i oi=true/\Hw ops listed=true/\(listed.size==ops.size)=true/\(Region.ready .any ops listed).contains i=true:=by
 simp only [Gp,hi,Bool.and_eq_true] at K;obtain⟨⟨⟨⟨⟨⟨O,U⟩,V⟩,Y⟩,Z⟩,ac⟩,ag⟩:=K;exact⟨O,U,V,Y,Z,ac,ag⟩
theorem JG.val{oi:Oper}(i:Nat)(hi:ops[i]? =some oi)(K:DG ops m=true)(O:Gp ops listed m i=true)(U:s.q=false)
  (hw:AR L ops oi=some true) (V:Bg n oi.dst=true) (Y:∀ρ,EP L ρ->∀s':St,(∀x o,(Br D s).E x=some o->s'.E x=some o)->Yl P oi ρ s' v)
  (h:AO J Q b n ds ops k cs m D fuel (A8 listed i) (As L oi.dst v) s):AO J Q b n ds ops k cs m D (fuel+1) listed L s:=
 let ⟨Z,ac,ag,al,am,ap,aq⟩:=Q2 hi O
 Wc hi Z K ac ag al am ap aq U hw V (λρ aw s' _ ay=>Y ρ aw s' ay) h
theorem aZ{oi:Oper}(i:Nat)(hi:ops[i]? =some oi)(K:DG ops m=true)(O:Gp ops listed m i=true)(U:s.q=false)
  (hw:AR L ops oi=some false) (V:Bg n oi.dst=true)
  (h:AO J Q b n ds ops k cs m D fuel (A8 listed i) (As L oi.dst undef) s):AO J Q b n ds ops k cs m D (fuel+1) listed L s:=
 let ⟨Y,Z,ac,ag,al,am,ap⟩:=Q2 hi O
 Wh hi Y K Z ac ag al am ap U hw V h
theorem av{α:Type}{pp:Rp α}{a:Option Addr}{c:Nat}{xs:List α}{xv:α}{K:Int}(i:Nat)(V:Al pp E a c xs)(O:ix xs K=some xv)
  (Y:ops[i]? =some ⟨d,.indexAddr t x y,ty,p,af,g⟩) (Z:DG ops m=true) (ac:Gp ops listed m i=true) (ag:s.q=false)
  (hw:AR L ops ⟨d,.indexAddr t x y,ty,p,af,g⟩=some true) (al:Bg n d=true)
  (am:ev L x=some (.slice a xs.length c)) (ap:ev L y=some (.int kd K)) (aq:P.underlying t=some (.slice e)) (aw:Bo P e=some pp.n)
  (h:∀bk o ws,pp.r E ws xv->At E bk o ws->AO J Q b n ds ops k cs m D fuel (A8 listed i) (As L d (.pointer (some ⟨bk,o,none⟩))) s):
  AO J Q b n ds ops k cs m D (fuel+1) listed L s:=by
 obtain⟨K,rfl,O⟩:=Gl O;have ay:K<xs.length:=(List.getElem?_eq_some_iff.1 O).1;obtain⟨a2,⟨rfl,_⟩ | ⟨bk,off,rfl,az⟩⟩:=V
 ·simp at ay
 obtain⟨ws,a0,a1⟩:=az K xv O;refine JG.val (v:= .pointer (some ⟨bk,off+K*pp.n,none⟩)) i Y Z ac ag hw al (λρ U s' _=>?_) (h bk _ ws a0 a1);have:=MM (P:=P) (s:=s') (d:=d) (ty:=ty) (p:=p) (af:=af) (g:=g) aq aw (U x _ am) (U y _ ap) ⟨by omega,by omega⟩;rw [Ei rfl] at this;simpa using this
theorem JG.call{f:FuncId}{args:Array Operand}{ats:Array TypeId}{vs:Lv_}{R:Value->LH->Seg->Prop}(V:AM J f vs E [] R)(Y:Region.ready .any ops listed= [i])
  (Z:ops[i]? =some ⟨d,.call ⟨.value (.func f),args,ats⟩,ty,p,af,g⟩) (ac:Bg n d=true) (hw:AR L ops ⟨d,.call ⟨.value (.func f),args,ats⟩,ty,p,af,g⟩=some true) (hb:Du P f=true) (ag:evs L args.toList=some vs) (al:Ap E H S)
  (am:∀v E' seg',Le E E'->R v E' seg'->Ap E' H (S++ [seg'])->AO J Q b n ds ops k cs m C3 fuel (A8 listed i) (As L d v) (Aj E' H (S++ [seg']))):
  AO J Q b n ds ops k cs m C3 (fuel+1) listed L (Aj E H S):=by
 have ap:=EF.La (V (Bl S.flatten H) trivial) (by rintro v s' ⟨E',B',_,_,_,rfl⟩;rfl);refine AO.call rfl Y Z ac hw hb ag ap ?_;rintro v a2 ⟨⟨E',B',hle,aq,aw,rfl⟩,w,ay⟩;have e2:mk E' (Bl S.flatten H) B'=mk E' H (B'++S.flatten):=by unfold mk;rw [FZ]
 have az:Nd E' H S.flatten:=Nd.grow al λx K=>by
  have a0:=ay.d x K;have a1:Bl B' (Bl S.flatten H) x=none:=a0;exact(HU a1).1
 have O:Nd E' H (B'++S.flatten):=Nd.glue aw az;have U:(B'++S.flatten).Perm (S++ [B']).flatten:=by rw [Gg];exact List.perm_append_comm
 rw [e2,Fi O U];exact⟨rfl,λx o K=>hle x o K,am v E' B' hle aq (Nd.perm O U)⟩
end
theorem Np{E H:LH}{S:List Seg}{j bk:Nat}{o:Obj}{seg:Seg}(K:Ap E H S)(O:S[j]? =some ((bk,o)::seg)):E bk=none:=by
 have hm:(bk,o)∈S.flatten:=List.mem_flatten.2 ⟨_,List.mem_of_getElem? O,by simp⟩;exact((Nd.iff.1 K).2 _ hm).1
def K2{α:Type}(n:Int)(z:α):Option (List α):=if 0<=n/\n<=2 ^ 20 then some (List.replicate n.toNat z) else none
def Dw{α:Type}(xs ys:List α):Option (List α):=if xs.length+ys.length<=2 ^ 40 then some (xs++ys) else none
def G9{α:Type}(xs:List α)(lo hi:Int):Option (List α):=if 0<=lo/\lo<=hi/\hi<=xs.length then some ((xs.take hi.toNat).drop lo.toNat) else none
section
variable {x:Operand}{v:Value}{m:Int}{a b:Nat}
end
variable {L':Env}
section
variable {b:Frame}{n:Nat}
variable {x:Operand}{v:Value}{i:Nat}
theorem VR{ρ:Operand->Value}:execOp ρ ⟨d,.makeSlice t x y,ty,p,af,g⟩=(do pure (Next.value (← Instr.makeSlice t (ρ x) (ρ y)))):=by
 simp only [execOp]
theorem Of{α:Type}(w:List α):∀m:Nat,((List.replicate m w).flatten).length=m*w.length
 | 0=>by simp
 | m+1=>by rw [List.replicate_succ,List.flatten_cons,List.length_append,Of w m,Nat.succ_mul,Nat.add_comm]
theorem WH(z:Av_)(O:0<z.size):∀m:Nat,((Array.range (m*z.size)).map (z[· % z.size]!)).toList=(List.replicate m z.toList).flatten:=by
 intro m;apply List.ext_getElem?;intro j;simp only [Array.toList_map,Array.toList_range,List.getElem?_map];by_cases K:j<m*z.size
 ·rw [List.getElem?_range K];have V:j / z.size<m:=(Nat.div_lt_iff_lt_mul O).2 K;have U:j % z.size<z.size:=Nat.mod_lt _ O;have hw:(List.replicate m z.toList)[j / z.size]? =some z.toList:=by simp [V]
  have:=J5 (n:=z.size) (wss:=List.replicate m z.toList) (λws Y=>by rw [List.eq_of_mem_replicate Y];simp) hw (j % z.size) z[j % z.size] (by simp [U]);rw [show j / z.size*z.size+j % z.size=j from by rw [Nat.mul_comm];exact Nat.div_add_mod _ _] at this;rw [this];simp [U]
 ·have hlen:((List.replicate m z.toList).flatten).length=m*z.size:=by rw [Of];simp
  rw [List.getElem?_eq_none (by simpa using K),List.getElem?_eq_none (by rw [hlen];omega)];rfl
theorem JS.make{α:Type}{pp:Rp α}{z:Value}{Y:α}{m:Int}{xs:List α}(U:K2 m Y=some xs)
  (aq:ops[i]? =some ⟨d,.makeSlice t x y,ty,p,af,g⟩) (hw:AR L ops ⟨d,.makeSlice t x y,ty,p,af,g⟩=some true) (aw:BJ b n ⟨d,.makeSlice t x y,ty,p,af,g⟩=true)
  (ay:ev L x=some (iV m)) (V:ev L y=some (iV m)) (az:P.underlying t=some (.slice e)) (a0:Bo P e=some pp.n) {O:Nat} (hb:FB P e=some O) (bd:O<=64) (a1:zeroOf P e=some z) (be:0<pp.n) (Z:pp.r E z.cells.toList Y) (a2:Ap E H S)
  (h:∀r seg,OL e pp E (some ⟨r,0,none⟩) xs.length seg xs->Ap E H (S++ [seg])->JL J Q b n (As L d (.slice (some ⟨r,0,none⟩) xs.length xs.length)) ds (.inRegion ops rest::k) cs (Aj E H (S++ [seg]))):
  JL J Q b n L ds (.inRegion ops (i::rest)::k) cs (Aj E H S):=by
 unfold K2 at U;split at U
 rotate_left
 ·cases U
 rename_i hm;cases U;refine JL.op aq hw aw λρ ac=>?_;rw [VR,ac x _ ay,ac y _ V];refine Ar _ _ ?_;unfold Instr.makeSlice;refine Ar _ _ (Ce az ?_);simp only [asInt,HV];obtain⟨inf,a3,a4⟩:=Ov hb;refine Ar (x:=typeInfo e) _ (J4 a3 ?_);simp only [a4,J9 (show -9223372036854775808<=m/\m<=9223372036854775807 by omega)];have bi:(O:Int)*m<=64*2 ^ 20:=by
  have ag:(O:Int)*m<=64*m:=Int.mul_le_mul_of_nonneg_right (by omega) hm.1;omega
 have a5:((decide (m<0) || decide ((O:Int)*m>2 ^ 48)) || decide (m<0) || decide (m>m))=false:=by
  simp only [Bool.or_eq_false_iff,decide_eq_false_iff_not];omega
 rw [a5];simp only [Bool.false_eq_true,if_false];refine Ar (x:=askRoom _) _ ?_;have a6:∀{Q:Unit->St->Prop} {X:Halt->St->Prop} (w:Nat),Q () (Aj E H S)->lp P (askRoom w) (Aj E H S) Q X:=by
  intro Q X w al;unfold askRoom;split
  ·exact⟨.inl ⟨rfl,rfl⟩,al⟩
  ·exact al
 refine a6 _ (Ar (x:=Go.sizeOf e) _ (EJ a0 ?_));have am:z.cells.size=pp.n:=by simpa using pp.len Z
 have fin:∀K:Av_,((Array.range (m.toNat*pp.n)).map (K[· % K.size]!)).toList=(List.replicate m.toNat z.cells.toList).flatten->lp P (do let a ← newRow e ((Array.range (m.toNat*pp.n)).map (K[· % K.size]!));pure (Value.slice (some a) m.toNat m.toNat)) (Aj E H S) (λa s'=>lp P (pure (Next.value a)) s' (λa7 s'=>match a7 with
   | .value v=>JL J Q b n (As L d v) ds (.inRegion ops rest::k) cs s'
   | .skip=>JL J Q b n (As L d undef) ds (.inRegion ops rest::k) cs s'
   | _=>False) (λ_ _=>False)) (λ_ _=>False):=by
  intro K a8;refine Ar _ _ (IU a2 λr ap=>?_);rw [(Fh ap).1];have bn:((Array.range (m.toNat*pp.n)).map (K[· % K.size]!)).size=m.toNat*pp.n:=by simp
  have:=h r _ ⟨List.replicate m.toNat z.cells.toList,.inr ⟨r,_,rfl,rfl,by simp,by simp,by
   rw [a8,List.take_of_length_le (by rw [Of];simp [am])]⟩,by simp,λi y us V hu=>by
    have:=List.mem_of_getElem? V;have a9:=List.eq_of_mem_replicate this
    have:=List.mem_of_getElem? hu;have e2:=List.eq_of_mem_replicate this
    subst a9 e2;exact Z⟩ (Fh ap).2
  simp only [List.length_replicate] at this;exact this
 split
 ·rename_i bb;have ag:m.toNat=0:=by rcases Nat.mul_eq_zero.1 bb with h | h <;> omega
  exact fin #[] (by simp [ag])
 ·refine Ar (x:=zeroValue e) _ (GQ a1 ?_);refine fin z.cells ?_;rw [← am];exact WH z.cells (by omega) _
theorem Sa{α:Type}{pp:Rp α}(O:ops[i]? =some ⟨d,.buildSlice t 0 #[],ty,p,af,g⟩)(hw:AR L ops ⟨d,.buildSlice t 0 #[],ty,p,af,g⟩=some true)(U:BJ b n ⟨d,.buildSlice t 0 #[],ty,p,af,g⟩=true)
  (V:P.underlying t=some (.slice e)) (Y:Bo P e=some pp.n) (Z:Ap E H S)
  (h:∀r seg,OL e pp E (some ⟨r,0,none⟩) 0 seg []->Ap E H (S++ [seg])->JL J Q b n (As L d (.slice (some ⟨r,0,none⟩) 0 0)) ds (.inRegion ops rest::k) cs (Aj E H (S++ [seg]))):
  JL J Q b n L ds (.inRegion ops (i::rest)::k) cs (Aj E H S):=by
 refine JL.op O hw U λρ ag=>?_;rw [Q8];refine Ar _ _ ?_;unfold Instr.buildSlice;refine Ar _ _ (Ce V ?_);refine Ar _ _ (EJ Y ?_);rw [if_neg (by omega),if_pos (by omega)];refine Ar (x:=pure #[]) _ ?_;simp only [lp,pure,List.map_toArray,List.map_nil,Instr.fill];refine Ar _ _ (IU Z λr K=>?_);rw [(Fh K).1];exact h r _ ⟨[],.inr ⟨r,_,rfl,rfl,by simp,Nat.le_refl _,by simp⟩,rfl,λi x ws ac=>by simp at ac⟩ (Fh K).2
theorem Al.rows{α:Type}{pp:Rp α}{a:Option Addr}{c:Nat}{xs:List α}(U:Al pp E a c xs):∃wss:List (Lv_),wss.length=xs.length/\(∀(i:Nat) x ws,xs[i]? =some x->wss[i]? =some ws->pp.r E ws x)/\
  ((xs= []/\∀ad:Addr,a=some ad->ad.spot=none∨c=0)∨∃bk off,a=some ⟨bk,off,none⟩/\∀(i:Nat) ws,wss[i]? =some ws->At E bk (off+i*pp.n) ws):=by
 obtain⟨ac,U⟩:=U;rcases U with⟨rfl,Y⟩ | ⟨bk,off,rfl,Z⟩
 ·exact⟨[],rfl,λi x ws O=>by simp at O,.inl ⟨rfl,Y⟩⟩
 ·have V:∀i:Fin xs.length,∃ws,pp.r E ws xs[i]/\At E bk (off+i*pp.n) ws:=λi=>Z i xs[i] (List.getElem?_eq_getElem i.2);refine⟨List.ofFn λi=>Classical.choose (V i),by simp,λi x ws O hw=>?_,.inr ⟨bk,off,rfl,λi ws hw=>?_⟩⟩
  ·have K:i<xs.length:=(List.getElem?_eq_some_iff.1 O).1;simp [K] at hw;subst hw;rw [List.getElem?_eq_getElem K] at O;cases O;exact(Classical.choose_spec (V ⟨i,K⟩)).1
  ·have K:i<xs.length:=by have:=(List.getElem?_eq_some_iff.1 hw).1;simpa using this
   simp [K] at hw;subst hw;exact(Classical.choose_spec (V ⟨i,K⟩)).2
theorem Ls{n:Nat}:∀{wss:List (Lv_)},(∀ws∈wss,ws.length=n)->wss.flatten.length=wss.length*n
 | [],_=>by simp
 | ws::wss,h=>by rw [List.flatten_cons,List.length_append,h ws (by simp),Ls λw hw=>h w (List.mem_cons_of_mem _ hw),List.length_cons,Nat.succ_mul,Nat.add_comm]
theorem Oe{n:Nat}:∀{wss:List (Lv_)},(∀ws∈wss,ws.length=n)->∀{j:Nat} {w:Value},wss.flatten[j]? =some w->∃(i m:Nat) (ws:Lv_),wss[i]? =some ws/\ws[m]? =some w/\j=i*n+m
 | [],_,_,_,h=>by simp at h
 | us::wss,O,j,w,h=>by
  have hu:=O us (by simp)
  rw [List.flatten_cons] at h
  rcases Nat.lt_or_ge j us.length with K | K
  ·rw [List.getElem?_append_left K] at h
   exact⟨0,j,us,rfl,h,by simp⟩
  ·rw [List.getElem?_append_right K] at h;obtain⟨i,m,ws,U,V,Y⟩:=Oe (λws hw=>O ws (List.mem_cons_of_mem _ hw)) h;exact⟨i+1,m,ws,by simpa using U,V,by rw [Nat.succ_mul];omega⟩
theorem MI{α:Type}{pp:Rp α}{wss O:List (Lv_)}{xs ys:List α}(U:wss.length=xs.length)(h:∀(i:Nat) x ws,xs[i]? =some x->wss[i]? =some ws->pp.r E ws x)(V:∀(i:Nat) x ws,ys[i]? =some x->O[i]? =some ws->pp.r E ws x):
  ∀(i:Nat) y us,(xs++ys)[i]? =some y->(wss++O)[i]? =some us->pp.r E us y:=by
 intro i y us K hu;rcases Nat.lt_or_ge i xs.length with hi | hi
 ·rw [List.getElem?_append_left hi] at K;rw [List.getElem?_append_left (by omega)] at hu;exact h i y us K hu
 ·rw [List.getElem?_append_right hi] at K;rw [List.getElem?_append_right (by omega),U] at hu;exact V _ y us K hu
theorem Vw{e t t1:TypeId}{Y az l c m:Nat}{a:Option Addr}{blk:List (Nat×Obj)}{xs ys:Lv_}{i:Nat}{rest:List Nat}{d:Option Tmp}{x y:Operand}{ats:Array TypeId}{ty:TypeId}{p:String}{af:Ae_}{g:On_}{z:Value}{ax:Option Addr}{cx:Nat}{B1:List (Nat×Obj)}
  (a8:ops[i]? =some ⟨d,.call ⟨.builtin .append,#[x,y],ats⟩,ty,p,af,g⟩) (hw:AR L ops ⟨d,.call ⟨.builtin .append,#[x,y],ats⟩,ty,p,af,g⟩=some true) (a9:BJ b n ⟨d,.call ⟨.builtin .append,#[x,y],ats⟩,ty,p,af,g⟩=true)
  (bb:ev L x=some (.slice a l c)) (bd:ev L y=some (.slice ax m cx)) (be:ats[0]? =some t) (bi:ats[1]? =some t1) (bn:P.underlying t=some (.slice e)) (bo:P.underlying t1=some (.slice e)) (bv:Bo P e=some Y) (hb:FB P e=some az) (bw:zeroOf P e=some z) (bx:z.cells.size=Y)
  (bz:0<az) (bY:az<=64) (bZ:l+m<=2 ^ 40) (b0:∀w∈ys,B3 w=true) (aq:GS e Y a l c blk xs) (a0:Nd E H (B0++blk++B1)) (a1:HF (mk E H (B0++blk++B1)) (.slice ax m cx) Y ys)
  (h:∀a5 aw a2,GS e Y a5 (l+m) aw a2 (xs++ys)->Nd E H (B0++a2)->JL J Q b n (As L d (.slice a5 (l+m) aw)) ds (.inRegion ops rest::k) cs (mk E H (B0++a2))):
  JL J Q b n L ds (.inRegion ops (i::rest)::k) cs (mk E H (B0++blk++B1)):=by
 refine JL.op a8 hw a9 λρ a6=>?_;rw [Lr,a6 x _ bb,a6 y _ bd];have b1:NA (B0++blk++B1) B0.length e Y a l c xs:=by
  rcases aq with⟨K,V,ag,al,Z⟩ | ⟨bk,f,K,V,ag,al,Z⟩
  ·exact .inl ⟨K,V,ag,Z⟩
  ·refine .inr ⟨bk,f,K,?_,ag,al,Z⟩;subst V;simp
 have hlen:=aq.length;refine Ar _ _ (Ox (pl:=B0.length) be bi bo bn bv hb bw bx a0 b1 a1 b0 bz bZ bY ?_ ?_ ?_)
 ·
  intro bk f O ay b7 b8 b2 a3 a4 ac;rcases aq with⟨K,_⟩ | ⟨U,f0,K,V,ag,al,Z⟩
  ·rw [K] at ay;cases ay
  ·subst V;have b3:U=bk:=by rw [K] at ay;simpa using ay
   subst b3;have b4:(B0++ [(U,Obj.cells f0 e (0,0))]++B1).set B0.length (U,.cells O e (0,0))=B0++ [(U,.cells O e (0,0))]++B1:=by
    rw [List.append_assoc,List.append_assoc];exact H4 _ _ _ _
   rw [b4] at ac ⊢;have am:Nd E H (B0++ [(U,.cells O e (0,0))]):=J7.Nd.left ac;refine JL.drop (B0++ [(U,.cells O e (0,0))]) (λp ap=>?_) ac (h a c _ (.inr ⟨U,O,K,rfl,a3,b2,a4.symm⟩) am);exact List.mem_iff_getElem?.1 (List.mem_append_left _ ap)
 ·intro a7 hm;rcases aq with⟨K,V,ag,al,Z⟩ | ⟨U,f0,K,_⟩
  ·subst hm;have b5:ys= []:=by
    cases ax with
    | none=>exact a1.2
    | some ad=>have:=a1.2.1;simp at this;exact this
   subst V al Z b5;have am:Nd E H (B0++ []):=J7.Nd.left a0;exact JL.drop (B0++ []) (λp ap=>List.mem_iff_getElem?.1 (List.mem_append_left _ ap)) a0 (h none 0 [] (by simpa using GS.nil) am)
  ·rw [K] at a7;cases a7
 ·
  intro r O aw b6 a3 a4 ac;have am:Nd E H (B0++ [(r,.cells O e (0,0))]):=J7.Nd.pick ac;refine JL.drop (B0++ [(r,.cells O e (0,0))]) (λp ap=>?_) ac (h (some ⟨r,0,none⟩) aw _ (.inr ⟨r,O,rfl,rfl,a3,b6,a4.symm⟩) am);refine List.mem_iff_getElem?.1 ?_;rcases List.mem_append.1 ap with q | q
  ·simp [q]
  ·exact List.mem_append_right _ q
theorem Hs{α:Type}{pp:Rp α}{t1:TypeId}{ag c cx:Nat}{a ax:Option Addr}{seg:Seg}{xs ys al:List α}{ats:Array TypeId}{z:Value}(j:Nat)(V:Dw xs ys=some al)
  (a2:ops[i]? =some ⟨d,.call ⟨.builtin .append,#[x,y],ats⟩,ty,p,af,g⟩) (hw:AR L ops ⟨d,.call ⟨.builtin .append,#[x,y],ats⟩,ty,p,af,g⟩=some true) (a3:BJ b n ⟨d,.call ⟨.builtin .append,#[x,y],ats⟩,ty,p,af,g⟩=true)
  (a4:ev L x=some (.slice a xs.length c)) (a5:ev L y=some (.slice ax ys.length cx)) (a6:ats[0]? =some t) (a7:ats[1]? =some t1) (a8:P.underlying t=some (.slice e)) (a9:P.underlying t1=some (.slice e)) (bb:Bo P e=some pp.n) (hb:FB P e=some ag) (bd:zeroOf P e=some z) (be:z.cells.size=pp.n)
  (bi:0<ag) (bn:ag<=64) (am:OL e pp E a c seg xs) (aq:Al pp E ax cx ys) (bo:Ap E H S) (aw:S[j]? =some seg)
  (h:∀Y Z seg',OL e pp E Y Z seg' al->Ap E H (S.set j seg')->JL J Q b n (As L d (.slice Y al.length Z)) ds (.inRegion ops rest::k) cs (Aj E H (S.set j seg'))):
  JL J Q b n L ds (.inRegion ops (i::rest)::k) cs (Aj E H S):=by
 unfold Dw at V;split at V
 rotate_left
 ·cases V
 rename_i bv;cases V;obtain⟨wss,am,ay,bw⟩:=am;obtain⟨bx,az⟩:=Gk bo aw;obtain⟨ac,O,ap,U⟩:=aq.rows;have a0:=H0 O ap;rw [bx];have bz:∀w∈ac.flatten,B3 w=true:=λw hw=>by
  obtain⟨us,bY,hw⟩:=List.mem_flatten.1 hw;obtain⟨q,K⟩:=List.mem_iff_getElem?.1 bY;have bZ:q<ys.length:=by rw [← O];exact(List.getElem?_eq_some_iff.1 K).1
  exact pp.one (ap q _ us (List.getElem?_eq_getElem bZ) K) w hw
 have hlen:(xs++ys).length=xs.length+ys.length:=by simp
 have a1:HF (mk E H ((S.set j []).flatten++seg)) (.slice ax ys.length cx) pp.n ac.flatten:=by
  rcases U with⟨U,b9⟩ | ⟨bk,off,rfl,U⟩
  ·subst U;have:ac= []:=List.eq_nil_of_length_eq_zero O;subst this;cases ax with
   | none=>exact⟨rfl,rfl⟩
   | some ad=>exact⟨.inr rfl,by simp,Nat.zero_le _,λq w K=>by simp at K⟩
  ·refine⟨.inl rfl,by rw [Ls a0,O],aq.1,λq w K=>?_⟩;obtain⟨b0,m,ws,b1,e2,b2⟩:=Oe a0 K;have:=(U b0 ws b1).cell (H:=H) (B:=(S.set j []).flatten++seg) e2;subst b2;rw [← Nat.add_assoc];exact this
 have b3:(S.set j []).flatten++seg=(S.set j []).flatten++seg++ []:=(List.append_nil _).symm;rw [b3] at az a1 ⊢;refine Vw a2 hw a3 a4 a5 a6 a7 a8 a9 bb hb bd be bi bn bv bz am az a1 λY Z b4 b5 b6=>?_;obtain⟨b7,b8⟩:=H5 aw b6;rw [b7];have:=h Y Z b4 ⟨wss++ac,by rw [hlen,List.flatten_append];exact b5,by simp [ay,O],MI ay bw ap⟩ b8;rw [hlen] at this;exact this
end
section
variable {b:Frame}{n:Nat}{m fuel:Nat}
variable {x:Operand}{v:Value}{i:Nat}
theorem B8(h:Sub L' L)(k':AO J Q b n ds ops k cs m D fuel listed L' s):AO J Q b n ds ops k cs m D fuel listed L s:=λT K=>k' T (K.sub h)
theorem DL{K:Nat}{O:Array Bool}(fuel:Nat)(listed:Array Bool)(I:Env->St->Prop)(U:∀L s,I L s->AO J Q b n ds ops k cs m D fuel listed L s)(h:(∀L s,I L s->AO J Q b n ds ops k cs m D fuel listed L s)->AO J Q b n ds ops k cs m D K O L s):AO J Q b n ds ops k cs m D K O L s:=h U
end
theorem At.tail{E:LH}{bk o:Nat}{l ws:Lv_}(h:At E bk o (l++ws)):At E bk (o+l.length) ws:=by
 obtain⟨f,e,fr,K,O⟩:=h;refine⟨f,e,fr,K,λj w U=>?_⟩;rw [Nat.add_assoc];refine O _ _ ?_;rw [List.getElem?_append_right (by omega)];rw [show l.length+j - l.length=j by omega];exact U
theorem T0{α:Type}{kk:Nat}{pp:Rp α}{E:LH}{bk o:Nat}{ws:Lv_}{xs:List α}{m:Int}{x:α}(O:(rA kk pp).r E ws xs)(h:At E bk o ws)(hm:ix xs m=some x):∃us,pp.r E us x/\At E bk (o+m.toNat*pp.n) us/\0<=m/\m<kk:=by
 obtain⟨U,wss,rfl,V,K⟩:=O;obtain⟨m,rfl,hm⟩:=Gl hm;have ac:m<xs.length:=(List.getElem?_eq_some_iff.1 hm).1;have hw:wss[m]? =some wss[m]:=List.getElem?_eq_getElem (by omega);refine⟨wss[m],K m x _ hm hw,?_,by omega,by omega⟩;obtain⟨f,e,fr,Y,g2⟩:=h;refine⟨f,e,fr,Y,λj w Z=>?_⟩;rw [Nat.add_assoc];exact g2 _ _ (J5 (H0 (V.trans U.symm) K) hw j w Z)
variable {v':Value}
section
variable {x:Operand}{v:Value}
end
section
variable {b:Frame}{n:Nat}
variable {x:Operand}{i:Nat}
end
section
variable {x:Operand}{v:Value}
theorem Ri{o:BinOp}{c K:Av_}(O:o= .eql∨o= .neq)(U:P.eqGuardType P.depth t=false){Q:Unit->St->Prop}{X:Halt->St->Prop}(k:Q () s):lp P (eqGuard o t x y (.agg c) (.agg K)) s Q X:=by
 rcases O with rfl | rfl <;> (simp [eqGuard,lp,bind,Sem.bind,program,pure,U];exact k)
end
section
variable (J:Judge P)(Q:Gs_)(b:Frame)(n:Nat)(ds:Ld_)(ops:Ao_)(k:Li_)(cs:Lf_)(m:Nat)(D:Nat->Bool)
def Take(fuel:Nat)(listed:Array Bool)(L:Env)(s:St)(i:Nat):Prop:=
 ∃o,ops[i]? =some o/\(!DW o.op)=true/\Bg n o.dst=true/\AR L ops o=some true/\∀ρ,EP L ρ->lp P (execOp ρ o) (Br D s) (λO s'=>match O with
  | .value v=>AO J Q b n ds ops k cs m D fuel (A8 listed i) (As L o.dst v) (Cn D s s')
  | .skip=>AO J Q b n ds ops k cs m D fuel (A8 listed i) (As L o.dst undef) (Cn D s s')
  | .enter f args=>∃R,EF J f args (Cn D s s') R/\∀v K,R v K->K.q=false/\(∀x o,(Br D s).E x=some o->(Br D K).E x=some o)/\AO J Q b n ds ops k cs m D fuel (A8 listed i) (As L o.dst v) K
  | _=>False) (λ_ _=>False)
end
section
variable {b:Frame}{n:Nat}{m fuel:Nat}
variable {x:Operand}{v:Value}{i:Nat}
theorem Oj(U:s.q=false){l:List Nat}(K:Region.ready .any ops listed=l)(V:l≠ [])(h:∀i∈l,Take J Q b n ds ops k cs m D fuel listed L s i):AO J Q b n ds ops k cs m D (fuel+1) listed L s:=
 Rz U (by rw [K];exact V) λi hi o O=>by
  rw [K] at hi
  obtain⟨o',Y,Z,ac,ag,al⟩:=h i hi
  obtain rfl:o'=o:=by rw [Y] at O;exact Option.some.inj O
  exact⟨Z,ac,true,ag,λe=>(by cases e),λ_=>al⟩
theorem JG.one(K:s.q=false)(O:Region.ready .any ops listed= [i])(h:Take J Q b n ds ops k cs m D fuel listed L s i):AO J Q b n ds ops k cs m D (fuel+1) listed L s:=
 Oj K O (by simp) (by simpa using h)
theorem DJ{i j:Nat}(K:s.q=false)(O:Region.ready .any ops listed= [i,j])(hi:Take J Q b n ds ops k cs m D fuel listed L s i)(U:Take J Q b n ds ops k cs m D fuel listed L s j):AO J Q b n ds ops k cs m D (fuel+1) listed L s:=
 Oj K O (by simp) (by intro q K;simp at K;rcases K with rfl | rfl <;> assumption)
end
theorem OL.aW{α:Type}{e:TypeId}{pp:Rp α}{E0 E H:LH}{S:List Seg}{a:Option Addr}{c j:Nat}{seg:Seg}{xs:List α}(U:OL e pp E0 a c seg xs)(Z:Ap E H S)(ac:S[j]? =some seg):∃wss:List (Lv_),HF (Aj E H S) (.slice a xs.length c) pp.n wss.flatten/\wss.length=xs.length/\∀(i:Nat) x ws,xs[i]? =some x->wss[i]? =some ws->pp.r E0 ws x:=by
 obtain⟨wss,U,ag,al⟩:=U;refine⟨wss,?_,ag,al⟩;rcases U with⟨rfl,am,Y,V,K⟩ | ⟨bk,f,rfl,rfl,Y,V,K⟩
 ·exact⟨am,K⟩
 ·have hle:xs.length*pp.n<=f.size:=by rw [Y];exact Nat.mul_le_mul_right _ V
  refine⟨.inl rfl,by rw [K];simp [hle],V,λq w O=>?_⟩;rw [K,List.getElem?_take] at O;split at O
  ·refine BC Z ac ?_;simpa using O
  ·cases O
section
variable {x:Operand}
theorem Yw{E0:LH}{ρ:Operand->Value}{K:Next->St->Prop}{α:Type}{pp:Rp α}{t1:TypeId}{a1 c cx:Nat}{a ax:Option Addr}{seg:Seg}{xs ys a2:List α}{ats:Array TypeId}{z:Value}(j:Nat)(ay:Dw xs ys=some a2)
  (bi:ρ x= .slice a xs.length c) (bn:ρ y= .slice ax ys.length cx) (bo:ats[0]? =some t) (bv:ats[1]? =some t1) (bw:P.underlying t=some (.slice e)) (bx:P.underlying t1=some (.slice e)) (bz:Bo P e=some pp.n) (hb:FB P e=some a1) (bY:zeroOf P e=some z) (bZ:z.cells.size=pp.n)
  (b0:0<a1) (b1:a1<=64) (aq:OL e pp E0 a c seg xs) (b2:∃Y:List (Lv_),HF (Aj E H S) (.slice ax ys.length cx) pp.n Y.flatten/\Y.length=ys.length/\∀(i:Nat) x ws,ys[i]? =some x->Y[i]? =some ws->pp.r E0 ws x) (b3:Ap E H S) (a8:S[j]? =some seg)
  (h:∀V O g seg',OL e pp E0 V O seg' a2->Ap E H (S.set j (g++seg'))->K (.value (.slice V a2.length O)) (Aj E H (S.set j (g++seg')))):
  lp P (execOp ρ ⟨d,.call ⟨.builtin .append,#[x,y],ats⟩,ty,p,af,g⟩) (Aj E H S) K (λ_ _=>False):=by
 unfold Dw at ay;split at ay
 rotate_left
 ·cases ay
 rename_i b4;cases ay;obtain⟨Y,a9,az,a3⟩:=b2;obtain⟨wss,aq,bb,b5⟩:=aq;obtain⟨b6,a4⟩:=Gk b3 a8;have b7:=H0 az a3;have b8:∀w∈Y.flatten,B3 w=true:=λw hw=>by
  obtain⟨us,b9,hw⟩:=List.mem_flatten.1 hw;obtain⟨q,bd⟩:=List.mem_iff_getElem?.1 b9;have ca:q<ys.length:=by rw [← az];exact(List.getElem?_eq_some_iff.1 bd).1
  exact pp.one (a3 q _ us (List.getElem?_eq_getElem ca) bd) w hw
 have hlen:(xs++ys).length=xs.length+ys.length:=by simp
 rw [b6] at a9 ⊢;rw [Lr,bi,bn];have a5:∀{V O seg'},GS e pp.n V (xs.length+ys.length) O seg' (wss.flatten++Y.flatten)->OL e pp E0 V O seg' (xs++ys):=λcb=>
  ⟨wss++Y,by rw [hlen,List.flatten_append];exact cb,by simp [bb,az],MI bb b5 a3⟩
 have fin:∀V O g seg',OL e pp E0 V O seg' (xs++ys)->Nd E H ((S.set j []).flatten++(g++seg'))->K (.value (.slice V (xs.length+ys.length) O)) (mk E H ((S.set j []).flatten++(g++seg'))):=λV O g seg' cc ac=>by
  obtain⟨cd,ce⟩:=H5 a8 ac;rw [cd];have:=h V O g seg' cc ce;rw [hlen] at this;exact this
 have cf:NA ((S.set j []).flatten++seg) (S.set j []).flatten.length e pp.n a xs.length c wss.flatten:=by
  rcases aq with⟨U,Z,aw,al,am⟩ | ⟨bk,f,U,Z,aw,al,am⟩
  ·exact .inl ⟨U,Z,aw,am⟩
  ·refine .inr ⟨bk,f,U,?_,aw,al,am⟩;subst Z;simp
 refine Ar _ _ (Ox (pl:=(S.set j []).flatten.length) bo bv bx bw bz hb bY bZ a4 cf a9 b8 b0 b4 b1 ?_ ?_ ?_)
 ·intro bk f ag a0 cp cq cg a6 a7 ac;rcases aq with⟨U,_⟩ | ⟨ap,f0,U,Z,aw,al,am⟩
  ·rw [U] at a0;cases a0
  ·subst Z;have ci:ap=bk:=by rw [U] at a0;simpa using a0
   subst ci;have ck:((S.set j []).flatten++ [(ap,Obj.cells f0 e (0,0))]).set (S.set j []).flatten.length (ap,.cells ag e (0,0))=(S.set j []).flatten++ [(ap,.cells ag e (0,0))]:=H4 _ _ _ _;rw [ck] at ac ⊢;exact fin a c [] _ (a5 (.inr ⟨ap,ag,U,rfl,a6,cg,a7.symm⟩)) ac
 ·intro be hm;rcases aq with⟨U,Z,aw,al,am⟩ | ⟨ap,f0,U,_⟩
  ·have cm:Y.flatten= []:=List.eq_nil_of_length_eq_zero (by rw [Ls b7,az,hm];simp);have:=fin none 0 [] [] (a5 (by rw [Z,hm,am,cm];exact GS.nil)) (by rw [al] at a4;simpa using a4);rw [Z,hm] at this;rw [al];simp only [List.append_nil] at this ⊢;exact this
  ·rw [U] at be;cases be
 ·intro r ag O cn a6 a7 ac;have co:(S.set j []).flatten++seg++ [(r,Obj.cells ag e (0,0))]=(S.set j []).flatten++(seg++ [(r,.cells ag e (0,0))]):=List.append_assoc _ _ _;rw [co] at ac ⊢;exact fin (some ⟨r,0,none⟩) O seg _ (a5 (.inr ⟨r,ag,rfl,rfl,a6,cn,a7.symm⟩)) ac
theorem Yq{E0:LH}{ρ:Operand->Value}{K:Next->St->Prop}{α:Type}{pp:Rp α}{t1:TypeId}{O c cx:Nat}{a ax:Option Addr}{seg V:Seg}{xs ys U:List α}{ats:Array TypeId}{z:Value}(j ag:Nat)(al:Dw xs ys=some U)
  (am:ρ x= .slice a xs.length c) (ap:ρ y= .slice ax ys.length cx) (aq:ats[0]? =some t) (aw:ats[1]? =some t1) (ay:P.underlying t=some (.slice e)) (az:P.underlying t1=some (.slice e)) (a0:Bo P e=some pp.n) (hb:FB P e=some O) (a1:zeroOf P e=some z) (a2:z.cells.size=pp.n)
  (a3:0<O) (a4:O<=64) (a5:OL e pp E0 a c seg xs) (a6:OL e pp E0 ax cx V ys) (Y:Ap E H S) (a7:S[j]? =some seg) (a8:S[ag]? =some V)
  (h:∀Z ac g seg',OL e pp E0 Z ac seg' U->Ap E H (S.set j (g++seg'))->K (.value (.slice Z U.length ac)) (Aj E H (S.set j (g++seg')))):
  lp P (execOp ρ ⟨d,.call ⟨.builtin .append,#[x,y],ats⟩,ty,p,af,g⟩) (Aj E H S) K (λ_ _=>False):=
 Yw j al am ap aq aw ay az a0 hb a1 a2 a3 a4 a5 (a6.aW Y a8) Y a7 h
end
section
variable {b:Frame}{n:Nat}{m fuel:Nat}
variable {x:Operand}{v:Value}{i:Nat}
end
section
variable {b:Frame}{n:Nat}{m fuel:Nat}
variable {x:Operand}{v:Value}{i:Nat}
theorem Take.JW{oi:Oper}(hi:ops[i]? =some oi)(K:(!DW oi.op&&Bg n oi.dst)=true)(hw:AR L ops oi=some true)
  (h:∀ρ,EP L ρ->lp P (execOp ρ oi) s (λO s'=>match O with
   | .value v=>AO J Q b n ds ops k cs m C3 fuel (A8 listed i) (As L oi.dst v) s'
   | .skip=>AO J Q b n ds ops k cs m C3 fuel (A8 listed i) (As L oi.dst undef) s'
   | _=>False) (λ_ _=>False)):Take J Q b n ds ops k cs m C3 fuel listed L s i:=by
 simp only [Bool.and_eq_true] at K
 refine⟨oi,hi,K.1,K.2,hw,λρ V=>DO _ (h ρ V) ?_ (λ_ _ h=>h)⟩
 intro O s' U
 cases O with
 | value v=>exact U
 | skip=>exact U
 | _=>exact U.elim
theorem Take.Co{α:Type}{pp:Rp α}{len:Nat}{K:Array (Nat×Operand)}(vs:Lv_){z:Value}(xs:List α)(O:Ap E H S)
  (U:ops[i]? =some ⟨d,.buildSlice t len K,ty,p,af,g⟩) (hw:AR L ops ⟨d,.buildSlice t len K,ty,p,af,g⟩=some true) (V:Bg n d=true)
  (Y:P.underlying t=some (.slice e)) (Z:Bo P e=some pp.n) (ac:zeroOf P e=some z) (ag:decide (0<len*pp.n/\len*pp.n<=2 ^ 24)=true)
  (al:K.toList.mapM (λq=>(ev L q.2).map λv=>(q.1,v))=some ((vs.zipIdx 0).map λq=>(q.2,q.1)))
  (am:vs.length=len) (ap:xs.length=len) (aq:Ku pp E xs vs)
  (h:∀r seg,OL e pp E (some ⟨r,0,none⟩) len seg xs->Ap E H (S++ [seg])->AO J Q b n ds ops k cs m C3 fuel (A8 listed i) (As L d (.slice (some ⟨r,0,none⟩) xs.length len)) (Aj E H (S++ [seg]))):
  Take J Q b n ds ops k cs m C3 fuel listed L (Aj E H S) i:=
 Take.JW U (by simp [DW,V]) hw λρ aw=>S5 aw vs xs Y Z ac ag al am ap aq O λr seg ay az=>h r seg ay az
theorem Take.app0{α:Type}{pp:Rp α}{t1:TypeId}{U c cx:Nat}{a ax:Option Addr}{seg Y:Seg}{xs ys V:List α}{ats:Array TypeId}{z:Value}(j Z:Nat)(ag:Ap E H S)(al:Dw xs ys=some V)
  (am:ops[i]? =some ⟨d,.call ⟨.builtin .append,#[x,y],ats⟩,ty,p,af,g⟩) (hw:AR L ops ⟨d,.call ⟨.builtin .append,#[x,y],ats⟩,ty,p,af,g⟩=some true) (ap:Bg n d=true)
  (aq:ev L x=some (.slice a xs.length c)) (aw:ev L y=some (.slice ax ys.length cx)) (ay:ats[0]? =some t) (az:ats[1]? =some t1) (a0:P.underlying t=some (.slice e)) (a1:P.underlying t1=some (.slice e)) (a2:Bo P e=some pp.n) (hb:FB P e=some U) (a3:zeroOf P e=some z) (a4:z.cells.size=pp.n)
  (a5:0<U) (a6:U<=64) (a7:OL e pp E a c seg xs) (a8:OL e pp E ax cx Y ys) (a9:S[j]? =some seg) (bb:S[Z]? =some Y)
  (h:∀K O g seg',OL e pp E K O seg' V->Ap E H (S.set j (g++seg'))->AO J Q b n ds ops k cs m C3 fuel (A8 listed i) (As L d (.slice K V.length O)) (Aj E H (S.set j (g++seg')))):
  Take J Q b n ds ops k cs m C3 fuel listed L (Aj E H S) i:=
 Take.JW am (by simp [DW,ap]) hw λρ ac=>Yq j Z al (ac _ _ aq) (ac _ _ aw) ay az a0 a1 a2 hb a3 a4 a5 a6 a7 a8 ag a9 bb λK O bd seg' be bi=>h K O bd seg' be bi
theorem Take.I3{z:Value}(O:Ap E H S)(U:ops[i]? =some ⟨d,.alloc e,ty,p,af,g⟩)(hw:AR L ops ⟨d,.alloc e,ty,p,af,g⟩=some true)(V:Bg n d=true)(Y:zeroOf P e=some z)
  (h:∀r,Ap E H (S++ [[(r,.cells z.cells e (0,0))]])->AO J Q b n ds ops k cs m C3 fuel (A8 listed i) (As L d (.pointer (some ⟨r,0,none⟩))) (Aj E H (S++ [[(r,.cells z.cells e (0,0))]]))):
  Take J Q b n ds ops k cs m C3 fuel listed L (Aj E H S) i:=
 Take.JW U (by simp [DW,V]) hw λρ _=>by
  show lp P (do pure (Next.value (← Instr.alloc e true (.tuple #[])))) _ _ _
  refine Ar _ _ ?_
  unfold Instr.alloc
  refine Ar _ _ (GQ Y ?_)
  refine Ar _ _ (IU O λr K=>?_)
  rw [(Fh K).1]
  exact h r (Fh K).2
end
theorem BG{α:Type}{kk:Nat}{pp:Rp α}{E:LH}{ws:Lv_}{xs:List α}(K:(rA kk pp).r E ws xs):ws.length=kk*pp.n:=(rA kk pp).len K
theorem GA{α:Type}{kk:Nat}{pp:Rp α}{E:LH}{ws:Lv_}{xs:List α}{m:Int}{x:α}(O:(rA kk pp).r E ws xs)(hm:ix xs m=some x):∃us,pp.r E us x/\0<=m/\m<kk/\(∀j w,us[j]? =some w->ws[m.toNat*pp.n+j]? =some w):=by
 obtain⟨U,wss,rfl,V,K⟩:=O;obtain⟨m,rfl,hm⟩:=Gl hm;have Z:m<xs.length:=(List.getElem?_eq_some_iff.1 hm).1;have hw:wss[m]? =some wss[m]:=List.getElem?_eq_getElem (by omega);exact⟨wss[m],K m x _ hm hw,by omega,by omega,λj w Y=>J5 (H0 (V.trans U.symm) K) hw j w Y⟩
section
variable {b:Frame}{n:Nat}
variable {x:Operand}{i:Nat}
theorem F0{α:Type}{kk:Nat}{pp:Rp α}{a:Addr}{ws:Lv_}{xs:List α}(K:(rA kk pp).r E ws xs)(O:Dr P t=some true)(U:Bo P t=some (kk*pp.n))(V:ρ x= .pointer (some a))(h:∀j v,ws[j]? =some v->s.cell? (a.add j)=some v):Yl P ⟨d,.load t x,ty,p,af,g⟩ ρ s (.agg ws.toArray):=
 GV O (by rw [BG K];exact U) V h
theorem Tn{α:Type}{pp:Rp α}{kk:Nat}{ws:Lv_}{xs:List α}{xv:α}{m:Int}{O:Bool}(V:(rA kk pp).r E ws xs)(hm:ix xs m=some xv)
  (ap:ops[i]? =some ⟨d,.index t x y,ty,p,af,g⟩) (hw:AR L ops ⟨d,.index t x y,ty,p,af,g⟩=some true) (aq:BJ b n ⟨d,.index t x y,ty,p,af,g⟩=true)
  (aw:ev L x=some (.agg ws.toArray)) (ay:ev L y=some (.int kd m)) (az:P.underlying t=some (.array kk e)) (Y:Bo P e=some pp.n) (a0:Dr P e=some O)
  (h:∀us,pp.r E us xv->JL J Q b n (As L d (if O then .agg us.toArray else us.headD undef)) ds (.inRegion ops rest::k) cs s) (a1:O=false->pp.n=1):
  JL J Q b n L ds (.inRegion ops (i::rest)::k) cs s:=by
 obtain⟨us,Z,a2,a3,ac⟩:=GA V hm;have hlen:=pp.len Z;have a4:=BG V;refine A4 ap hw aq (λρ ag=>?_) (h us Z);refine EN (sm:=Instr.index t (ρ x) (ρ y)) rfl ?_;rw [ag _ _ aw,ag _ _ ay];unfold Instr.index;simp only [asIntOf,HV];refine Ar (x:=underlying t) _ (Ce az ?_);simp only [a2,a3,and_self,if_true];refine Ar (x:=Go.sizeOf e) _ (EJ Y ?_);unfold Go.part;refine Ar (x:=isAgg e) _ (MV a0 ?_);have a6:m.toNat*pp.n+pp.n<=ws.length:=by
  rw [a4];have:(m.toNat+1)*pp.n<=kk*pp.n:=Nat.mul_le_mul_right _ (by omega);rw [Nat.succ_mul] at this;exact this
 cases O with
 | true=>
  simp only [if_true];refine Ar (x:=Go.sizeOf e) _ (EJ Y ?_);have a5:ws.toArray.extract (m.toNat*pp.n) (m.toNat*pp.n+pp.n)=us.toArray:=by
   apply Array.ext_getElem?;intro j;by_cases al:j<us.length
   ·have U:=ac j us[j] (List.getElem?_eq_getElem al);simp only [Array.getElem?_extract,List.size_toArray,List.getElem?_toArray];rw [if_pos (by omega),U];simp [al]
   ·rw [Array.getElem?_eq_none (by simp;omega),Array.getElem?_eq_none (by simp;omega)]
  rw [a5];exact⟨rfl,rfl⟩
 | false=>
  have am:=a1 rfl;obtain⟨w,rfl⟩:∃w,us= [w]:=by
   match us,hlen with
   | [w],_=>exact⟨w,rfl⟩
   | [],K=>rw [am] at K;cases K
   | _::_::_,K=>rw [am] at K;simp at K
  have U:=ac 0 w rfl;simp only [Bool.false_eq_true,if_false,List.getElem?_toArray];rw [Nat.add_zero] at U;rw [U];exact⟨rfl,rfl⟩
end
def HB(S:List Seg):List Nat->Prop
 | []=>True
 | bk::bks=>(∃(j:Nat) (o:Obj),S[j]? =some [(bk,o)])/\HB S bks
theorem HB.mem{S:List Seg}:∀{bks:List Nat},HB S bks->∀bk∈bks,∃(j:Nat) (o:Obj),S[j]? =some [(bk,o)]
 | [],_,_,h=>by cases h
 | b::bks,h,bk,hb=>by
  rcases List.mem_cons.1 hb with rfl | hb
  ·exact h.1
  ·exact h.2.mem bk hb
theorem HB.free{E H:LH}{S:List Seg}{bks:List Nat}(h:HB S bks)(K:Ap E H S):∀x,AG bks x=true->E x=none:=λx O=>by
 obtain⟨j,o,U⟩:=h.mem x (by simpa [AG] using O)
 exact Np K U
section
variable {b:Frame}{n:Nat}{m fuel:Nat}
variable {x:Operand}{v:Value}{i:Nat}
theorem Xx{bks:List Nat}{f:FuncId}{args:Array Operand}{ats:Array TypeId}{vs:Lv_}{R:Value->LH->Seg->Prop}(al:HB S bks)(am:AM J f vs E [] R)(ap:Region.ready .any ops listed= [i])
  (aq:ops[i]? =some ⟨d,.call ⟨.value (.func f),args,ats⟩,ty,p,af,g⟩) (aw:Bg n d=true) (hw:AR L ops ⟨d,.call ⟨.value (.func f),args,ats⟩,ty,p,af,g⟩=some true) (hb:Du P f=true) (ay:evs L args.toList=some vs) (Y:Ap E H S)
  (az:∀v E' seg',Le E E'->R v E' seg'->Ap E' H (S++ [seg'])->AO J Q b n ds ops k cs m (AG bks) fuel (A8 listed i) (As L d v) (Aj E' H (S++ [seg']))):
  AO J Q b n ds ops k cs m (AG bks) (fuel+1) listed L (Aj E H S):=by
 have a0:=EF.La (am (Bl S.flatten H) trivial) (by rintro v s' ⟨E',B',_,_,_,rfl⟩;rfl);refine AO.call rfl ap aq aw hw hb ay a0 ?_;rintro v a8 ⟨⟨E',B',hle,a1,a2,rfl⟩,w,a3⟩;have e2:mk E' (Bl S.flatten H) B'=mk E' H (B'++S.flatten):=by unfold mk;rw [FZ]
 have a4:Nd E' H S.flatten:=Nd.grow Y λx O=>by
  have a5:=a3.d x O;have U:Bl B' (Bl S.flatten H) x=none:=a5;exact(HU U).1
 have Z:Nd E' H (B'++S.flatten):=Nd.glue a2 a4;have ac:(B'++S.flatten).Perm (S++ [B']).flatten:=by rw [Gg];exact List.perm_append_comm
 have ag:Ap E' H (S++ [B']):=Nd.perm Z ac;rw [e2,Fi Z ac];refine⟨rfl,λx o O=>?_,az v E' B' hle a1 ag⟩;by_cases hd:AG bks x=true
 ·obtain⟨j,o',V⟩:=al.mem x (by simpa [AG] using hd);have U:(Aj E H S).get x=some o':=C6 (i:=0) Y V rfl;have a6:j<S.length:=(List.getElem?_eq_some_iff.1 V).1;have a7:(Aj E' H (S++ [B'])).get x=some o':=C6 (i:=0) ag (by rw [List.getElem?_append_left a6];exact V) rfl;have K:(if AG bks x then(Aj E H S).get x else E x)=some o:=O
  show(if AG bks x then(Aj E' H (S++ [B'])).get x else E' x)=some o
  rw [if_pos hd] at K ⊢;rw [a7,← U];exact K
 ·have K:(if AG bks x then(Aj E H S).get x else E x)=some o:=O
  show(if AG bks x then(Aj E' H (S++ [B'])).get x else E' x)=some o
  rw [if_neg hd] at K ⊢;exact hle _ _ K
theorem Xi(m:Nat)(bks:List Nat){id:Nat}(U:HB S bks)(V:Ap E H S)(hm:P.follows .mixedOrders=true)(K:(b.kind != .early)=true)(O:DG ops m=true)
  (h:DG ops m=true->AO J Q b n ds ops k cs m (AG bks) ops.size (Array.replicate ops.size false) L (Aj E H S)):JL J Q b n L ds (.code (.region id ops true)::k) cs (Aj E H S):=
 OA m (AG bks) rfl hm K (h O)
theorem Cl{bks:List Nat}{bk o:Nat}{c:Av_}{f:Nat×Nat}{w:Value}{s':St}(j:Nat)(K:Ap E H S)(O:S[j]? =some [(bk,.cells c e f)])(U:AG bks bk=true)(V:∀x o,(Br (AG bks) (Aj E H S)).E x=some o->s'.E x=some o)(hw:c[o]? =some w):s'.cell? ⟨bk,o,none⟩=some w:=by
 have Y:(Br (AG bks) (Aj E H S)).E bk=some (.cells c e f):=by
  show(if AG bks bk then(Aj E H S).get bk else E bk)=_
  rw [if_pos U];exact C6 (i:=0) K O rfl
 have Z:=V _ _ Y;unfold St.cell? St.get;rw [Z];exact hw
theorem T3{bks:List Nat}{s':St}(O:Ap E H S)(U:∀x o,(Br (AG bks) (Aj E H S)).E x=some o->s'.E x=some o)(V:HB S bks):∀x o,E x=some o->s'.E x=some o:=λx o K=>U x o (by
 show(if AG bks x then(Aj E H S).get x else E x)=some o
 rw [if_neg (λhd=>by rw [V.free O x hd] at K;cases K)];exact K)
end
theorem Xt{P:Program}{s:St}{ρ:Operand->Value}{x y:Operand}{d:Option Tmp}{t ty e:TypeId}{p:String}{af:Ae_}{g:On_}{kd:IntKind}{α:Type}{xs:List α}{xv:α}{m:Int}{bk c K:Nat}(hm:ix xs m=some xv)(O:P.underlying t=some (.slice e))(U:Bo P e=some K)(V:ρ x= .slice (some ⟨bk,0,none⟩) xs.length c)(Y:ρ y= .int kd m):
  Yl P ⟨d,.indexAddr t x y,ty,p,af,g⟩ ρ s (.pointer (some ⟨bk,m.toNat*K,none⟩)):=by
 obtain⟨m,rfl,hm⟩:=Gl hm;have Z:m<xs.length:=(List.getElem?_eq_some_iff.1 hm).1;have:=MM (P:=P) (s:=s) (d:=d) (ty:=ty) (p:=p) (af:=af) (g:=g) O U V Y ⟨by omega,by omega⟩;rw [Ei rfl] at this;simpa using this
def HH(ws:Lv_)(q:Nat)(us:Lv_):Lv_:=(A7 ws.toArray q us).toList
theorem MR{ws us:Lv_}{q:Nat}(h:q+us.length<=ws.length)(j:Nat):(HH ws q us)[j]? =if q<=j/\j<q+us.length then us[j - q]? else ws[j]? :=by
 unfold HH;rw [Array.getElem?_toList,Lz us _ q (by simpa using h)];simp
theorem Vx{l ws us:Lv_}{q:Nat}(h:q+us.length<=ws.length):A7 (l++ws).toArray (l.length+q) us=(l++HH ws q us).toArray:=by
 apply Array.ext_getElem?;intro j;rw [Lz us _ _ (by simp;omega)];simp only [List.getElem?_toArray];by_cases O:l.length+q<=j/\j<l.length+q+us.length
 ·rw [if_pos O,List.getElem?_append_right (by omega),MR h,if_pos (by omega)];congr 1;omega
 ·rw [if_neg O];rcases Nat.lt_or_ge j l.length with K | K
  ·rw [List.getElem?_append_left K,List.getElem?_append_left K]
  ·rw [List.getElem?_append_right K,List.getElem?_append_right K,MR h,if_neg (by omega)]
theorem Ho{ws us:Lv_}(h:us.length=ws.length):HH ws 0 us=us:=by
 apply List.ext_getElem?;intro j;rw [MR (by omega)];split
 ·simp
 ·rename_i K;rw [List.getElem?_eq_none (by omega),List.getElem?_eq_none (by omega)]
theorem Gh{E H:LH}{S:List Seg}{bk:Nat}{l ws:Lv_}{e:TypeId}{f:Nat×Nat}(j:Nat)(K:Ap E H S)(O:S[j]? =some [(bk,.cells (l++ws).toArray e f)]):∀q v,ws[q]? =some v->(Aj E H S).cell? (Addr.add ⟨bk,l.length,none⟩ q)=some v:=λq v U=>by
 rw [Ei rfl]
 refine BC K O ?_
 simp only [List.getElem?_toArray]
 rw [List.getElem?_append_right (by omega)]
 rw [show l.length+q - l.length=q by omega];exact U
theorem IV{E H:LH}{S:List Seg}{bk o:Nat}{l ws:Lv_}{e:TypeId}{f:Nat×Nat}{w:Value}(j:Nat)(K:Ap E H S)(O:S[j]? =some [(bk,.cells (l++ws).toArray e f)])(U:ws[o]? =some w):(Aj E H S).cell? ⟨bk,l.length+o,none⟩=some w:=by
 have:=Gh j K O o w U
 rwa [Ei rfl] at this
theorem LX{α:Type}{kk:Nat}{pp:Rp α}{E:LH}{ws us:Lv_}{xs:List α}{m:Int}{x y:α}(Y:(rA kk pp).r E ws xs)(hm:ix xs m=some x)(hu:pp.r E us y):(rA kk pp).r E (HH ws (m.toNat*pp.n) us) (xs.set m.toNat y)/\m.toNat*pp.n+us.length<=ws.length:=by
 have aw:=BG Y;obtain⟨Z,wss,rfl,ac,ag⟩:=Y;obtain⟨m,rfl,hm⟩:=Gl hm;have ay:m<xs.length:=(List.getElem?_eq_some_iff.1 hm).1;have al:=pp.len hu;have az:=H0 (ac.trans Z.symm) ag;have am:m*pp.n+us.length<=wss.flatten.length:=by
  rw [aw,al];have:(m+1)*pp.n<=kk*pp.n:=Nat.mul_le_mul_right _ (by omega);rw [Nat.succ_mul] at this;exact this
 simp only [Int.toNat_natCast];refine⟨⟨by simpa using Z,wss.set m us,?_,by simpa using ac,λi a0 a1 O U=>?_⟩,am⟩
 ·apply List.ext_getElem?;intro j;rw [MR am];have key:∀(wss:List (Lv_)) (m:Nat) (hm:m<wss.length),(∀ws∈wss,ws.length=pp.n)->∀j,(wss.set m us).flatten[j]? =if m*pp.n<=j/\j<m*pp.n+us.length then us[j - m*pp.n]? else wss.flatten[j]? :=by
   intro wss
   induction wss with
   | nil=>intro m hm;simp at hm
   | cons vs wss a2=>
    intro m hm ap j;have a3:vs.length=pp.n:=ap vs (by simp);cases m with
    | zero=>
     simp only [List.set_cons_zero,List.flatten_cons,Nat.zero_mul,Nat.zero_le,true_and,Nat.zero_add,Nat.sub_zero];split
     ·rename_i K;rw [List.getElem?_append_left K]
     ·rename_i K;rw [List.getElem?_append_right (by omega),List.getElem?_append_right (by omega),al,a3]
    | succ m=>
     simp only [List.set_cons_succ,List.flatten_cons];have V:(m+1)*pp.n=m*pp.n+pp.n:=Nat.succ_mul _ _;rcases Nat.lt_or_ge j vs.length with K | K
     ·rw [List.getElem?_append_left K,List.getElem?_append_left K,if_neg (by omega)]
     ·rw [List.getElem?_append_right K,List.getElem?_append_right K,a2 m (by simpa using hm) (λws a4=>ap ws (List.mem_cons_of_mem _ a4))];by_cases aq:m*pp.n<=j - vs.length/\j - vs.length<m*pp.n+us.length
      ·rw [if_pos aq,if_pos (by omega)];congr 1;omega
      ·rw [if_neg aq,if_neg (by omega)]
  exact(key wss m (by omega) az j).symm
 ·rw [List.getElem?_set] at O U;by_cases V:m=i
  ·subst V;rw [if_pos rfl,if_pos ay] at O;rw [if_pos rfl,if_pos (by omega)] at U;cases O;cases U;exact hu
  ·rw [if_neg V] at O U;exact ag i a0 a1 O U
theorem Ez{α:Type}{kk:Nat}{pp:Rp α}{E:LH}{w:Value}{x:α}(h:pp.r E [w] x):(rA kk pp).r E (List.replicate kk w) (List.replicate kk x):=by
 refine⟨by simp,List.replicate kk [w],?_,by simp,λi y us K hu=>?_⟩
 ·induction kk with
  | zero=>rfl
  | succ k O=>rw [List.replicate_succ,List.replicate_succ,List.flatten_cons,← O];rfl
 ·have U:=List.eq_of_mem_replicate (List.mem_of_getElem? K);have e2:=List.eq_of_mem_replicate (List.mem_of_getElem? hu);subst U e2;exact h
section
variable {b:Frame}{n:Nat}
variable {x:Operand}{i:Nat}
theorem Hp{α:Type}{kk:Nat}{pp:Rp α}{ws:Lv_}{xs:List α}{xv:α}{m:Int}{bk o:Nat}(K:(rA kk pp).r E ws xs)(hm:ix xs m=some xv)(O:P.underlying t=some (.array kk e))(U:Bo P e=some pp.n)(V:ρ x= .pointer (some ⟨bk,o,none⟩))(Y:ρ y= .int kd m):
  Yl P ⟨d,.indexAddr t x y,ty,p,af,g⟩ ρ s (.pointer (some ⟨bk,o+m.toNat*pp.n,none⟩)):=by
 obtain⟨us,ag,Z,ac,al⟩:=GA K hm;have:=QW (P:=P) (s:=s) (d:=d) (ty:=ty) (p:=p) (af:=af) (g:=g) O U V Y ⟨Z,ac⟩;rw [Ei rfl] at this;exact this
theorem FM{bk o:Nat}{l ws us:Lv_}{v:Value}(j:Nat)(U:ops[i]? =some ⟨d,.store t x y,ty,p,af,g⟩)(hw:AR L ops ⟨d,.store t x y,ty,p,af,g⟩=some true)(V:BJ b n ⟨d,.store t x y,ty,p,af,g⟩=true)(Y:Ap E H S)
  (Z:ev L x=some (.pointer (some ⟨bk,l.length+o,none⟩))) (ac:ev L y=some v) (K:v.cells.toList=us) (ag:Bo P t=some us.length) (al:∀u∈us,B3 u=true) (am:S[j]? =some [(bk,.cells (l++ws).toArray e (0,0))]) (hle:o+us.length<=ws.length)
  (h:Ap E H (S.set j [(bk,.cells (l++HH ws o us).toArray e (0,0))])->JL J Q b n (As L d undef) ds (.inRegion ops rest::k) cs (Aj E H (S.set j [(bk,.cells (l++HH ws o us).toArray e (0,0))]))):
  JL J Q b n L ds (.inRegion ops (i::rest)::k) cs (Aj E H S):=by
 have ap:v.cells.size=us.length:=by rw [← K];simp
 refine JS.store (v:=v) (off:=l.length+o) j U hw V Y Z ac (by rw [ap];exact ag) (by rw [K];exact al) am (by simp;omega) λO=>?_;rw [K,Vx hle] at O ⊢;exact h O
end
section
variable {x:Operand}{v:Value}
theorem Tt{n:Nat}{kd:IntKind}{a b:Int}(K:P.underlying t=some (.int kd)){Q:Bool->St->Prop}{X:Halt->St->Prop}(k:Q (a==b) s):lp P (Op.equalIn (n+1) t (.int kd a) (.int kd b)) s Q X:=by
 unfold Op.equalIn;refine Ar _ _ (Ce K ?_);simp only [if_true];exact k
end
theorem RQ{E H:LH}{S:List Seg}{bks:List Nat}{bk:Nat}{l ws:Lv_}{e:TypeId}{f:Nat×Nat}{s':St}(j:Nat)(K:Ap E H S)(O:S[j]? =some [(bk,.cells (l++ws).toArray e f)])(U:AG bks bk=true)(V:∀x o,(Br (AG bks) (Aj E H S)).E x=some o->s'.E x=some o):∀q v,ws[q]? =some v->s'.cell? (Addr.add ⟨bk,l.length,none⟩ q)=some v:=λq v Y=>by
 rw [Ei rfl]
 refine Cl j K O U V ?_
 simp only [List.getElem?_toArray]
 rw [List.getElem?_append_right (by omega)]
 rw [show l.length+q - l.length=q by omega];exact Y
variable {xt t1 t2:TypeId}{o:Option (Int×Option Int)}
section
variable {x:Operand}{v:Value}
end
def Uq{P:Program}(J:Judge P)(v:Value)(args:Av_)(s:St)(R:Value->St->Prop):Prop:=
 ∀(Q:Gs_) (c:Frame) (cs:Lf_),(∀w s',R w s'->J.ok Q (G (c.finish w) cs) s')->
  lp P (do let d ← Deferred.ofValue v args;invoke d.target d.args) s (λK s'=>match K with
   | .enter f a=>J.ok Q (G (Frame.enter P f a .normal) (c::cs)) s'
   | .round l f tm as O=>J.ok Q (G (Frame.round l f tm as O .normal) (c::cs)) s'
   | _=>False) (λ_ _=>False)
def EM{P:Program}(J:Judge P)(v:Value)(args:Lv_)(E:LH)(B:Seg)(R:Value->LH->Seg->Prop):Prop:=
 ∀H,Nd E H B->Uq J v args.toArray (mk E H B) (λv s'=>∃E' B',Le E E'/\R v E' B'/\Nd E' H B'/\s'=mk E' H B')
section
variable {b:Frame}{n:Nat}{i:Nat}
theorem EM.ofFn{f:FuncId}{caps vs:Lv_}{B:Seg}{R:Value->LH->Seg->Prop}(hb:Du P f=true)(h:AM J f (vs++caps) E B R):EM J (.func (.func f) #[] caps.toArray) vs E B R:=λH K Q c cs O=>by
 simp only [Deferred.ofValue,bind,Sem.bind,pure,invoke]
 have e: #[]++vs.toArray++caps.toArray=(vs++caps).toArray:=by simp
 rw [e];exact IP hb (h H K Q c cs O)
theorem V8{x:Operand}{O:Value}{args:Array Operand}{ats:Array TypeId}{s:St}{vs:Lv_}{R:Value->St->Prop}
  (V:ops[i]? =some ⟨d,.call ⟨.value x,args,ats⟩,ty,p,af,g⟩) (hw:AR L ops ⟨d,.call ⟨.value x,args,ats⟩,ty,p,af,g⟩=some true) (U:((b.kind != .early)&&Bg n d)=true)
  (Y:ev L x=some O) (Z:evs L args.toList=some vs) (ac:Uq J O vs.toArray s R) (ag:∀v s',R v s'->JL J Q b n (As L d v) ds (.inRegion ops rest::k) cs s'):
  JL J Q b n L ds (.inRegion ops (i::rest)::k) cs s:=λT K=>by
 simp only [Bool.and_eq_true] at U
 have al:args.map (BA T)=vs.toArray:=by
  rw [← FY K.F2 Z];apply Array.ext';simp
 refine Judge.oper V (B6 K hw) (by simpa using U.1) (.inr λc am=>by cases am) ?_;have hd:lp P (execOp (BA T) ⟨d,.call ⟨.value x,args,ats⟩,ty,p,af,g⟩) s (upon J Q b T ds ops i rest k cs d) (K0 J Q b T ds ops i rest k cs):=by
  have ap:execOp (BA T) ⟨d,.call ⟨.value x,args,ats⟩,ty,p,af,g⟩=(do let d ← Deferred.ofValue O vs.toArray;invoke d.target d.args):=by
   simp only [execOp,resolve,al,K.F2 _ _ Y]
  rw [ap];refine DO _ (ac Q (fr b T ds (.inRegion ops (i::rest)::k)) cs λv s' aq=>?_) (λaw s' h=>?_) (λ_ _ h=>h.elim)
  ·rw [Gf (o:=⟨d,.call ⟨.value x,args,ats⟩,ty,p,af,g⟩) _ _ _ _ _ V];exact ag v s' aq _ (K.put U.2 v)
  ·cases aw <;> first | exact h | exact h.elim
 exact hd
theorem IX{x:Operand}{O:Value}{args:Array Operand}{ats:Array TypeId}{vs:Lv_}{seg:Seg}{R:Value->LH->Seg->Prop}(j:Nat)
  (al:EM J O vs E seg R) (am:ops[i]? =some ⟨d,.call ⟨.value x,args,ats⟩,ty,p,af,g⟩) (hw:AR L ops ⟨d,.call ⟨.value x,args,ats⟩,ty,p,af,g⟩=some true) (ap:((b.kind != .early)&&Bg n d)=true)
  (K:ev L x=some O) (aq:evs L args.toList=some vs) (U:Ap E H S) (V:S[j]? =some seg) (aw:∀v E' seg',Le E E'->R v E' seg'->Ap E' H (S.set j seg')->JL J Q b n (As L d v) ds (.inRegion ops rest::k) cs (Aj E' H (S.set j seg'))):
  JL J Q b n L ds (.inRegion ops (i::rest)::k) cs (Aj E H S):=by
 have Y:S.flatten.Perm (seg++(S.set j []).flatten):=(Ey (seg':=seg) V).1.trans List.perm_append_comm;have Z:Nd E H (seg++(S.set j []).flatten):=Nd.perm U Y;have ay:Aj E H S=mk E (Bl (S.set j []).flatten H) seg:=by
  rw [show Aj E H S=mk E H S.flatten from rfl,Fi U Y];unfold mk;rw [FZ]
 rw [ay];refine V8 am hw ap K aq (al _ (Nd.front Z)) ?_;rintro v s' ⟨E',B',hle,az,a0,rfl⟩;have e2:mk E' (Bl (S.set j []).flatten H) B'=mk E' H (B'++(S.set j []).flatten):=by unfold mk;rw [FZ]
 have a1:Nd E H (S.set j []).flatten:=by
  have:=Z;rw [Nd.iff] at this ⊢;rw [List.map_append,List.nodup_append] at this;exact⟨this.1.2.1,λq a2=>this.2 q (List.mem_append_right _ a2)⟩
 refine SQ rfl λ⟨w,a3⟩=>?_;have a4:Nd E' H (S.set j []).flatten:=a1.grow λx K=>by
  have a5:=a3.d x K;have a6:Bl B' (Bl (S.set j []).flatten H) x=none:=a5;exact(HU a6).1
 have ac:Nd E' H (B'++(S.set j []).flatten):=Nd.glue a0 a4;rw [e2];have ag:(B'++(S.set j []).flatten).Perm (S.set j B').flatten:=List.perm_append_comm.trans (Ey V).2.symm;rw [Fi ac ag];exact aw v E' B' hle az (Nd.perm ac ag)
theorem Take.bB{bks:List Nat}{m fuel:Nat}{listed:Array Bool}{f:FuncId}{args:Array Operand}{ats:Array TypeId}{vs:Lv_}{R:Value->LH->Seg->Prop}(am:HB S bks)(Y:Ap E H S)(ap:AM J f vs E [] R)
  (aq:ops[i]? =some ⟨d,.call ⟨.value (.func f),args,ats⟩,ty,p,af,g⟩) (hw:AR L ops ⟨d,.call ⟨.value (.func f),args,ats⟩,ty,p,af,g⟩=some true) (aw:Bg n d=true) (hb:Du P f=true) (ay:evs L args.toList=some vs)
  (az:∀v E' seg',Le E E'->R v E' seg'->Ap E' H (S++ [seg'])->AO J Q b n ds ops k cs m (AG bks) fuel (A8 listed i) (As L d v) (Aj E' H (S++ [seg']))):
  Take J Q b n ds ops k cs m (AG bks) fuel listed L (Aj E H S) i:=by
 have a0:=EF.La (ap (Bl S.flatten H) trivial) (by rintro v s' ⟨E',B',_,_,_,rfl⟩;rfl);refine⟨_,aq,by simp [DW],aw,hw,λρ Z=>?_⟩;have a1:args.map ρ=vs.toArray:=by
  rw [← FY Z ay];apply Array.ext';simp
 have a2:ρ (.func f)= .func (.func f) #[] #[]:=Z _ _ rfl;simp only [execOp,resolve,bind,Sem.bind,Deferred.ofValue,a2,pure,invoke];have e: #[]++args.map ρ++ #[]=vs.toArray:=by rw [a1];simp
 rw [e];refine IP hb ?_;rw [LA];refine⟨_,a0,?_⟩;rintro v bb ⟨⟨E',B',hle,a3,a4,rfl⟩,w,a5⟩;have e2:mk E' (Bl S.flatten H) B'=mk E' H (B'++S.flatten):=by unfold mk;rw [FZ]
 have a6:Nd E' H S.flatten:=Nd.grow Y λx O=>by
  have a7:=a5.d x O;have U:Bl B' (Bl S.flatten H) x=none:=a7;exact(HU U).1
 have ac:Nd E' H (B'++S.flatten):=Nd.glue a4 a6;have ag:(B'++S.flatten).Perm (S++ [B']).flatten:=by rw [Gg];exact List.perm_append_comm
 have al:Ap E' H (S++ [B']):=Nd.perm ac ag;rw [e2,Fi ac ag];refine⟨rfl,λx o O=>?_,az v E' B' hle a3 al⟩;by_cases hd:AG bks x=true
 ·obtain⟨j,o',V⟩:=am.mem x (by simpa [AG] using hd);have U:(Aj E H S).get x=some o':=C6 (i:=0) Y V rfl;have a8:j<S.length:=(List.getElem?_eq_some_iff.1 V).1;have a9:(Aj E' H (S++ [B'])).get x=some o':=C6 (i:=0) al (by rw [List.getElem?_append_left a8];exact V) rfl;have K:(if AG bks x then(Aj E H S).get x else E x)=some o:=O
  show(if AG bks x then(Aj E' H (S++ [B'])).get x else E' x)=some o
  rw [if_pos hd] at K ⊢;rw [a9,← U];exact K
 ·have K:(if AG bks x then(Aj E H S).get x else E x)=some o:=O
  show(if AG bks x then(Aj E' H (S++ [B'])).get x else E' x)=some o
  rw [if_neg hd] at K ⊢;exact hle _ _ K
theorem Take.DU{m fuel:Nat}{listed:Array Bool}{f:FuncId}{args:Array Operand}{ats:Array TypeId}{vs:Lv_}{R:Value->LH->Seg->Prop}(O:Ap E H S)(U:AM J f vs E [] R)
  (V:ops[i]? =some ⟨d,.call ⟨.value (.func f),args,ats⟩,ty,p,af,g⟩) (hw:AR L ops ⟨d,.call ⟨.value (.func f),args,ats⟩,ty,p,af,g⟩=some true) (Y:Bg n d=true) (hb:Du P f=true) (Z:evs L args.toList=some vs)
  (K:∀v E' seg',Le E E'->R v E' seg'->Ap E' H (S++ [seg'])->AO J Q b n ds ops k cs m C3 fuel (A8 listed i) (As L d v) (Aj E' H (S++ [seg']))):
  Take J Q b n ds ops k cs m C3 fuel listed L (Aj E H S) i:=by
 have e:AG []=C3:=by funext x;rfl
 rw [← e] at K ⊢;exact Take.bB (bks:= []) trivial O U V hw Y hb Z K
end
open Go.ConcN (upd upd_ne upd_same)
def CO:Loc->Option Nat | .cell a=>some a.block | .obj r=>some r | _=>none
structure BW (t:Trace) (w:World) (N:Nat) (S:Nat->St) (Sh:Nat->Prop):Prop where
 fits:∀i,i<N->Fits (S i) w
 hh:∀i j,i<N->j<N->i≠j->∀b,(S i).H b≠none->(S j).H b=none/\(S j).E b=none
 sh:∀i,i<N->∀b,Sh b->(S i).H b=none/\(S i).E b=none
 F4:∀b,Sh b->b<w.heap.size
 clean:∀said,¬Race said t
 low:∀op∈t,op.act.low w.heap.size
 kH:∀i,i<N->∀b,(S i).H b≠none->∀x a,touchAt t x=some a->CO a.loc=some b->Knows t i x
 kE:∀i,i<N->∀b,(S i).E b≠none->∀x a,touchAt t x=some a->CO a.loc=some b->a.write=true->Knows t i x
theorem OB{t:Trace}{x:Nat}{a:Touch}{b n:Nat}(Y:∀op∈t,op.act.low n)(h:touchAt t x=some a)(hb:CO a.loc=some b):b<n:=by
 obtain⟨op,Z,K⟩:=touch_of h;have O:=Y op (mem_of_getElem? Z);cases U:op.act with
 | access e=>
  rw [U] at K O;simp only [MemAct.touch?,Option.some.injEq] at K;subst K;simp only [MemAct.low] at O;cases V:e.loc with
  | cell ad=>rw [V] at O hb;simp only [CO,Option.some.injEq] at hb;subst hb;exact O
  | obj r=>rw [V] at O hb;simp only [CO,Option.some.injEq] at hb;subst hb;exact O
  | _=>rw [V] at hb;simp [CO] at hb
 | mark m=>
  rw [U] at K O;cases m <;> simp only [MemAct.touch?] at K <;> first
   | (simp at K;done)
   | (simp only [Option.some.injEq] at K;subst K;simp only [CO,Option.some.injEq] at hb;subst hb;exact O)
 | _=>rw [U] at K;simp [MemAct.touch?] at K
theorem KO{s:St}{w w':World}{e:Event}{a:Touch}{b:Nat}(h:Ev s w w' e)(K:(MemAct.ofEvent e).touch? =some a)(hb:CO a.loc=some b):
  GB s w w' b a.write:=by
 obtain⟨loc,wr,V⟩:=e;cases loc with
 | cell ad=>
  obtain⟨O,U⟩:=h;simp only at O;subst O;simp only [MemAct.ofEvent,MemAct.touch?,Option.some.injEq] at K;subst K;simp only [CO,Option.some.injEq] at hb;subst hb;exact U
 | obj r=>
  obtain⟨O,U⟩:=h;simp only at O;subst O;simp only [MemAct.ofEvent,MemAct.touch?,Option.some.injEq] at K;subst K;simp only [CO,Option.some.injEq] at hb;subst hb;exact U
 | mark m=>
  cases m <;> simp only [Ev] at h <;> first | exact h.elim | simp [MemAct.ofEvent,MemAct.touch?] at K
 | _=>exact h.elim
theorem Y9{s:St}{w w':World}{e:Event}(h:Ev s w w' e):(MemAct.ofEvent e).low w'.heap.size:=by
 obtain⟨loc,wr,U⟩:=e;cases loc with
 | cell ad=>obtain⟨K,O⟩:=h;simp only at K;subst K;exact O.1
 | obj r=>obtain⟨K,O⟩:=h;simp only at K;subst K;cases wr <;> exact O.1
 | mark m=>cases m <;> simp only [Ev] at h <;> first | exact h.elim | exact trivial
 | _=>exact h.elim
theorem U0{l:Loc}(h:l.isMemory=true):∃b,CO l=some b:=by
 cases l <;> simp [Loc.isMemory] at h <;> exact⟨_,rfl⟩
theorem BW.own{t:Trace}{w w':World}{N:Nat}{S:Nat->St}{Sh:Nat->Prop}(h:BW t w N S Sh){i:Nat}(hi:i<N){s':St}{fn:FuncId}{pos:String}{es:Array Event}
  (bb:Fits s' w') (V:Fr (S i) w s' w') (ay:∀e∈es,Ev (S i) w w' e):BW (t++MemOp.ofEvents i fn pos es) w' N (upd S i s') Sh:=by
 have a5:∀j,j<N->j≠i->∀b o,((S j).H b=some o∨(S j).E b=some o)->w'.heap[b]? =some o/\(S i).H b=none:=by
  intro j U Y b o K;have hw:w.heap[b]? =some o:=K.elim ((h.fits j U).h b o) ((h.fits j U).e b o);have ag:b<w.heap.size:=by
   rcases Nat.lt_or_ge b w.heap.size with a1 | a1
   ·exact a1
   ·simp [Array.getElem?_eq_none a1] at hw
  have a6:(S i).H b=none:=by
   cases bd:(S i).H b with
   | none=>rfl
   | some u=>
    have:=h.hh i j hi U (Ne.symm Y) b (by rw [bd];simp);rcases K with K | K
    ·rw [this.1] at K;cases K
    ·rw [this.2] at K;cases K
  exact⟨by rw [V.keep b ag a6,hw],a6⟩
 have az:∀j,j<N->∀b,w.heap.size<=b->(S j).H b=none/\(S j).E b=none:=by
  intro j U b hb;constructor
  ·cases O:(S j).H b with
   | none=>rfl
   | some o=>have:=(h.fits j U).h b o O;simp [Array.getElem?_eq_none hb] at this
  ·cases O:(S j).E b with
   | none=>rfl
   | some o=>have:=(h.fits j U).e b o O;simp [Array.getElem?_eq_none hb] at this
 have al:∀op∈MemOp.ofEvents i fn pos es,op.g=i/\∃e∈es,op.act=MemAct.ofEvent e:=by
  intro op al;obtain⟨e,he,rfl⟩:=mem_ofEvents al;exact⟨rfl,e,he,rfl⟩
 have hold:∀x a,touchAt t x=some a->touchAt (t++MemOp.ofEvents i fn pos es) x=some a:=by
  intro x a O;obtain⟨op,K,_⟩:=touch_of O;rw [touchAt_old (lt_size_of_getElem? K)];exact O
 have a0:∀x a,touchAt (t++MemOp.ofEvents i fn pos es) x=some a->touchAt t x=some a∨(Knows (t++MemOp.ofEvents i fn pos es) i x/\∃e∈es,(MemAct.ofEvent e).touch? =some a):=by
  intro x a O;obtain⟨op,K,a7⟩:=touch_of O;rcases getElem?_append_cases K with⟨ag,be⟩ | ⟨_,bi⟩
  ·left;rw [touchAt_of be];exact a7
  ·right;obtain⟨bn,e,he,ap⟩:=al op bi;exact⟨by have:=knows_own K;rwa [bn] at this,e,he,by rw [← ap];exact a7⟩
 have bo:∀j,j<N->j≠i->∀b,s'.H b≠none->(S j).H b=none/\(S j).E b=none:=by
  intro j U Y b hb;rcases V.own b hb with O | O
  ·exact h.hh i j hi U (Ne.symm Y) b O
  ·exact az j U b O
 have bv:∀j,j<N->j≠i->∀b,(S j).H b≠none->s'.H b=none/\s'.E b=none:=by
  intro j U Y b hb;have Z:=h.hh j i U hi Y b hb;have ag:¬w.heap.size<=b:=λO=>hb (az j U b O).1;constructor
  ·cases O:s'.H b with
   | none=>rfl
   | some o=>
    rcases V.own b (by rw [O];simp) with y | y
    ·exact absurd Z.1 y
    ·exact absurd y ag
  ·cases O:s'.E b with
   | none=>rfl
   | some o=>
    rcases V.EB b (by rw [O];simp) with y | y | y
    ·exact absurd Z.2 y
    ·exact absurd Z.1 y
    ·exact absurd y ag
 constructor
 ·intro j U;by_cases e:j=i
  ·subst e;rw [upd_same];exact bb
  ·rw [upd_ne _ _ e];exact⟨λb o K=>(a5 j U e b o (.inr K)).1,λb o K=>(a5 j U e b o (.inl K)).1,(h.fits j U).d⟩
 ·intro a c a8 aq Y b hb;by_cases e:a=i
  ·subst e;rw [upd_same] at hb;rw [upd_ne _ _ (Ne.symm Y)];exact bo c aq (Ne.symm Y) b hb
  ·rw [upd_ne _ _ e] at hb;by_cases a9:c=i
   ·subst a9;rw [upd_same];exact bv a a8 Y b hb
   ·rw [upd_ne _ _ a9];exact h.hh a c a8 aq Y b hb
 ·intro j U b hb;by_cases e:j=i
  ·subst e;rw [upd_same];have Z:=h.sh j U b hb;have ag:=h.F4 b hb;constructor
   ·cases O:s'.H b with
    | none=>rfl
    | some o=>
     rcases V.own b (by rw [O];simp) with y | y
     ·exact absurd Z.1 y
     ·omega
   ·cases O:s'.E b with
    | none=>rfl
    | some o=>
     rcases V.EB b (by rw [O];simp) with y | y | y
     ·exact absurd Z.2 y
     ·exact absurd Z.1 y
     ·omega
  ·rw [upd_ne _ _ e];exact h.sh j U b hb
 ·exact λb hb=>Nat.lt_of_lt_of_le (h.F4 b hb) V.size
 ·intro said;refine noRace_append (g:=i) (h.clean said) (λop K=>(al op K).1) λx a O op K c aq bw=>?_;obtain⟨_,e,he,ap⟩:=al op K;rw [ap] at aq;obtain⟨bx,hm,am,_⟩:=bw;obtain⟨b,hb⟩:=U0 hm;have bz:CO c.loc=some b:=by rw [← bx];exact hb
  have aw:=KO (ay e he) aq bz;rcases aw.2 with y | y | ⟨y,a2⟩
  ·exact h.kH i hi b y x a O hb
  ·have:=OB h.low O hb;omega
  ·rcases am with z | z
   ·exact h.kE i hi b y x a O hb z
   ·rw [a2] at z;cases z
 ·intro op K;rcases Array.mem_append.1 K with K | K
  ·exact MemAct.low_mono V.size (h.low op K)
  ·obtain⟨_,e,he,ap⟩:=al op K;rw [ap];exact Y9 (ay e he)
 ·intro j U b hb x a O ac;by_cases e:j=i
  ·subst e;rw [upd_same] at hb;rcases a0 x a O with K | ⟨a3,_⟩
   ·rcases V.own b hb with y | y
    ·exact(h.kH j U b y x a K ac).app _
    ·have:=OB h.low K ac;omega
   ·exact a3
  ·rw [upd_ne _ _ e] at hb;rcases a0 x a O with K | ⟨_,ev,he,a4⟩
   ·exact(h.kH j U b hb x a K ac).app _
   ·have aw:=KO (ay ev he) a4 ac;have Z:=h.hh j i U hi e b hb;rcases aw.2 with y | y | ⟨y,_⟩
    ·exact absurd Z.1 y
    ·exact absurd (az j U b y).1 hb
    ·exact absurd Z.2 y
 ·intro j U b hb x a O ac am;by_cases e:j=i
  ·subst e;rw [upd_same] at hb;rcases a0 x a O with K | ⟨a3,_⟩
   ·rcases V.EB b hb with y | y | y
    ·exact(h.kE j U b y x a K ac am).app _
    ·exact(h.kH j U b y x a K ac).app _
    ·have:=OB h.low K ac;omega
   ·exact a3
  ·rw [upd_ne _ _ e] at hb;rcases a0 x a O with K | ⟨_,ev,he,a4⟩
   ·exact(h.kE j U b hb x a K ac am).app _
   ·have aw:=KO (ay ev he) a4 ac;rcases aw.2 with y | y | ⟨_,a2⟩
    ·exact absurd ((h.hh i j hi U (Ne.symm e) b y).2) hb
    ·exact absurd (az j U b y).2 hb
    ·rw [a2] at am;cases am
theorem BW.mute{t u:Trace}{w w':World}{N:Nat}{S:Nat->St}{Sh:Nat->Prop}(h:BW t w N S Sh){g:Nat}(hu:∀op∈u,op.g=g)(Y:∀op∈u,op.act.touch? =none)(ag:∀op∈u,op.act.low w'.heap.size)(hw:w'.heap=w.heap):BW (t++u) w' N S Sh:=by
 have Z:∀x a,touchAt (t++u) x=some a->touchAt t x=some a:=by
  intro x a O;obtain⟨op,K,U⟩:=touch_of O;rcases getElem?_append_cases K with⟨aq,al⟩ | ⟨_,am⟩
  ·rw [touchAt_of al];exact U
  ·rw [Y op am] at U;cases U
 exact⟨λi hi=>⟨λb o K=>by rw [hw];exact(h.fits i hi).e b o K,λb o K=>by rw [hw];exact(h.fits i hi).h b o K,(h.fits i hi).d⟩,h.hh,h.sh,λb hb=>by rw [hw];exact h.F4 b hb,
  λsaid=>noRace_append (g:=g) (h.clean said) hu (λx a _ op K c ac _=>by rw [Y op K] at ac;cases ac),
  λop K=>(Array.mem_append.1 K).elim (λK=>by rw [hw];exact h.low op K) (ag op),
  λi hi b hb x a O V=>(h.kH i hi b hb x a (Z x a O) V).app _,λi hi b hb x a O V ap=>(h.kE i hi b hb x a (Z x a O) V ap).app _⟩
theorem BW.ghost{t:Trace}{w:World}{N:Nat}{S:Nat->St}{Sh:Nat->Prop}(h:BW t w N S Sh){i:Nat}(hi:i<N){s₀:St}(ag:Cf (S i) s₀):BW t w N (upd S i s₀) Sh:=by
 have Y:∀b,s₀.H b≠none->(S i).H b≠none:=λb hb=>by obtain⟨o,al⟩:=HW hb;rw [ag.own b o al];simp
 have am:∀b,s₀.E b≠none->(S i).E b≠none∨(S i).H b≠none:=λb hb=>by
  obtain⟨o,al⟩:=HW hb;rcases ag.EB b o al with x | x
  ·exact .inl (by rw [x];simp)
  ·exact .inr (by rw [x.1];simp)
 have Z:∀{x:Option Obj},¬x≠none->x=none:=λh=>Classical.not_not.1 h;constructor
 ·intro j K;by_cases e:j=i
  ·subst e;rw [upd_same];exact ag.fits (h.fits j K)
  ·rw [upd_ne _ _ e];exact h.fits j K
 ·intro a c ap aq ac b hb;by_cases e:a=i
  ·subst e;rw [upd_same] at hb;rw [upd_ne _ _ (Ne.symm ac)];exact h.hh a c ap aq ac b (Y b hb)
  ·rw [upd_ne _ _ e] at hb;by_cases aw:c=i
   ·subst aw;rw [upd_same];have O:=h.hh a c ap aq ac b hb;exact⟨Z λx=>Y b x O.1,Z λx=>(am b x).elim (λy=>y O.2) λy=>y O.1⟩
   ·rw [upd_ne _ _ aw];exact h.hh a c ap aq ac b hb
 ·intro j K b hb;by_cases e:j=i
  ·subst e;rw [upd_same];have O:=h.sh j K b hb;exact⟨Z λx=>Y b x O.1,Z λx=>(am b x).elim (λy=>y O.2) λy=>y O.1⟩
  ·rw [upd_ne _ _ e];exact h.sh j K b hb
 ·exact h.F4
 ·exact h.clean
 ·exact h.low
 ·intro j K b hb x a U V;by_cases e:j=i
  ·subst e;rw [upd_same] at hb;exact h.kH j K b (Y b hb) x a U V
  ·rw [upd_ne _ _ e] at hb;exact h.kH j K b hb x a U V
 ·intro j K b hb x a U V ay;by_cases e:j=i
  ·subst e;rw [upd_same] at hb;rcases am b hb with y | y
   ·exact h.kE j K b y x a U V ay
   ·exact h.kH j K b y x a U V
  ·rw [upd_ne _ _ e] at hb;exact h.kE j K b hb x a U V ay
open Go.ConcN (sumTo sumTo_upd)
abbrev St.none:St:=St.quiet
def F6(o o':Os):Prop:=∃d:Nat,o'={o with wall:=o.wall+d,mono:=o.mono+d}
theorem F6.refl(o:Os):F6 o o:=⟨0,V⟩
theorem F6.of{o o':Os}(h:o'=o):F6 o o':=h▸ .refl o
theorem F6.trans{a b c:Os}(h:F6 a b)(k:F6 b c):F6 a c:=by
 obtain⟨d,rfl⟩:=h;obtain⟨e,rfl⟩:=k;exact⟨d+e,by simp [Nat.add_assoc]⟩
def lone(s:St):Nat->St:=λi=>if i=0 then s else St.none
structure Hc (P:Program) (gs:Array Goroutine) (w:World) (t:Trace) (q:Nat->Nat) (Sh:Nat->Prop) (g:Goroutine) (s:St):Prop where
 main:gs[0]? =some g
 lv:Leavers P t gs q
 B9:BW t w gs.size (lone s) Sh
 over:t.HandedOver
 hears:Deaf t 0=0
def Reaches(P:Program)(gs:Array Goroutine)(w:World)(sl:Option (Nat×Nat))(t:Trace)(s:St)(K:Gs_):Prop:=
 ∃(n:Nat) (gs':Array Goroutine) (w':World) (U:Option (Nat×Nat)) (O:Trace) (q':Nat->Nat) (V:Nat->Prop) (g':Goroutine) (s':St),
  runNT P n (crowd gs w sl) t=(.next (crowd gs' w' U),O)/\Hc P gs' w' O q' V g' s'/\K g' s'/\Le' s s'/\w'.tape=w.tape/\F6 w.os w'.os/\w'.output=w.output
 where
  Le' (s s' : St) : Prop := ∀ b o, s.E b = some o -> s'.E b = some o
theorem RD{s s':St}:upd (lone s) 0 s'=lone s':=by
 funext i;unfold upd lone;split <;> rfl
theorem MC{P:Program}{m m':Machine}{t ops:Trace}{k:Nat}{r:Stepped×Trace}(h:stepT P m=(.next m',ops))(K:runNT P k m' (t++ops)=r):runNT P (k+1) m t=r:=by
 simp only [runNT,h];exact K
theorem Hc.at_{P:Program}{gs:Array Goroutine}{w:World}{t:Trace}{q:Nat->Nat}{Sh:Nat->Prop}{g:Goroutine}{s:St}(h:Hc P gs w t q Sh g s)(d:Nat):Hc P gs (w.at d) t q Sh g s:=
 ⟨h.main,h.lv,by
  have:=h.B9.mute (u:= #[]) (w':=w.at d) (g:=0) (by simp) (by simp) (by simp) rfl
  simpa using this,h.over,h.hears⟩
theorem VN{P:Program}{g:Goroutine}{s:St}{K:Gs_}(a8:SX P true g s K):
  ∀(M:Nat) (gs:Array Goroutine) (w:World) (sl:Option (Nat×Nat)) (t:Trace) (q:Nat->Nat) (Sh:Nat->Prop),sumTo gs.size q<=M->Hc P gs w t q Sh g s->Reaches P gs w sl t s K:=by
 intro M
 induction M with
 | zero=>?_
 | succ M bi=>?_
 all_goals
  intro gs w sl t q Sh b6 hC;have aw:=a8.1;have bn:∀x∈gs,awake x:=by
   intro x ag;obtain⟨i,hi,rfl⟩:=Array.mem_iff_getElem.1 ag;rcases Nat.eq_zero_or_pos i with rfl | ay
   ·have:gs[0]=g:=by simpa [Array.getElem?_eq_getElem hi] using hC.main
    rw [this];exact awake_of (.inl aw)
   ·exact awake_of ((hC.lv.old i _ ay (Array.getElem?_eq_getElem hi)).status.elim .inl λx=> .inr (.inr x))
  obtain⟨i,x,d,al,hi,ag,a9⟩:=crowd_pick (P:=P) (w:=w) (sl:=sl) bn ⟨0,g,hC.main,aw⟩;have az:=hC.at_ d;have a0:0<gs.size:=(Array.getElem?_eq_some_iff.1 hC.main).1;rcases Nat.eq_zero_or_pos i with rfl | ay
  ·obtain rfl:x=g:=by rw [hC.main] at hi;exact(Option.some.inj hi).symm
   have bo:Fits s (w.at d):=az.B9.fits 0 a0;obtain⟨g',s',w',es,a1,a2,a3,Y,am⟩:=a8.2.1 (w.at d) bo;have a4:=runT_crowd_go (P:=P) (sl:=al) (i:=0) hi (show stepG P (0==0) x (w.at d)=_ from a1);have ap:((gs.map (woken P x g' w')).setIfInBounds 0 g').size=gs.size:=by simp
   have V:∀op∈MemOp.ofEvents 0 x.frame.fn x.frame.place es,op.g=0:=λop O=>by obtain⟨e,_,rfl⟩:=mem_ofEvents O;rfl
   have bv:deafBehind (Deaf t 0) es=Deaf t 0:=deafBehind_still (λe he=>by
    have:=am e he
    unfold Ev at this
    constructor <;> intro bw <;> rw [bw] at this <;> exact this) _
   refine⟨1,_,w',al,t++MemOp.ofEvents 0 x.frame.fn x.frame.place es,q,Sh,g',s',MC (a9.trans a4) rfl,⟨by simp [a0],⟨λj y U Z=>?_,λj U=>?_⟩,?_,?_,?_⟩,a2,Y.ext,Y.tape,.of Y.os,Y.output⟩
   ·have a5:0≠j:=by omega
    rw [Array.getElem?_setIfInBounds_ne a5,Array.getElem?_map] at Z;obtain⟨z,a6,rfl⟩:=Option.map_eq_some_iff.1 Z;have ac:=hC.lv.old j z U a6;rw [woken_quitsD ac,Deaf_other t (by omega) _ V];exact ac
   ·rw [Deaf_other t (g':=0) (by simp at U;omega) _ V];exact hC.lv.above j (by simpa using U)
   ·rw [ap,← RD (s:=s)];exact az.B9.own a0 a3 (by simpa [lone] using Y) (by simpa [lone] using am)
   ·exact handedOver_app hC.over λop O=> .inl (V op O)
   ·rw [Deaf_own,bv];exact hC.hears
  ·
   have ac:=hC.lv.old i x ay hi;have bx:(i==0)=false:=by simp;omega
   have bb:i<gs.size:=(Array.getElem?_eq_some_iff.1 hi).1;cases a7:q i with
   | zero=>rw [a7] at ac;rw [ac.1] at ag;cases ag
   | succ k=>
    rw [a7] at ac;rcases ac with⟨bz,_⟩ | ⟨_,x',es,hm,bY,bZ⟩
    ·rw [bz] at ag;cases ag
    have b7:sumTo gs.size (upd q i k)+(k+1)=sumTo gs.size q+k:=by
     have:=sumTo_upd q k id bb;simpa [a7] using this
    first
     | (exfalso;omega)
     | (
      have a4:=runT_crowd_go (P:=P) (sl:=al) (i:=i) hi (by rw [bx];exact bY (w.at d))
      have ap:((gs.map (woken P x x' (w.at d))).setIfInBounds i x').size=gs.size:=by simp
      have V:∀op∈MemOp.ofEvents i x.frame.fn x.frame.place es,op.g=i:=λop O=>by obtain⟨e,_,rfl⟩:=mem_ofEvents O;rfl
      have bd:∀op∈MemOp.ofEvents i x.frame.fn x.frame.place es,op.act.touch? =none:=λop O=>by obtain⟨e,he,rfl⟩:=mem_ofEvents O;exact touch_mute (hm e he)
      have b0:Hc P ((gs.map (woken P x x' (w.at d))).setIfInBounds i x') (w.at d) (t++MemOp.ofEvents i x.frame.fn x.frame.place es) (upd q i k) Sh g s:=by
       refine⟨?_,⟨λj y U Z=>?_,λj U=>?_⟩,?_,?_,?_⟩
       ·have a5:i≠0:=by omega
        rw [Array.getElem?_setIfInBounds_ne a5,Array.getElem?_map,hC.main]
        simp [woken_run aw]
       ·by_cases aq:i=j
        ·subst aq
         rw [Array.getElem?_setIfInBounds_self_of_lt (by simpa using bb)] at Z
         obtain rfl:=Option.some.inj Z
         rw [upd_same,Deaf_own]
         exact bZ
        ·rw [Array.getElem?_setIfInBounds_ne aq,Array.getElem?_map] at Z
         obtain⟨z,a6,rfl⟩:=Option.map_eq_some_iff.1 Z
         have be:=hC.lv.old j z U a6
         rw [woken_quitsD be,upd_ne q k (Ne.symm aq),Deaf_other t aq _ V]
         exact be
       ·rw [Deaf_other t (g':=i) (by simp at U;omega) _ V]
        exact hC.lv.above j (by simpa using U)
       ·rw [ap]
        exact az.B9.mute V bd (λop O=>by obtain⟨e,he,rfl⟩:=mem_ofEvents O;exact low_mute (hm e he) _) rfl
       ·exact handedOver_app hC.over λop O=> .inr (bd op O)
       ·rw [Deaf_other t (by omega) _ V];exact hC.hears
      obtain⟨n,gs',w',b1,b2,q',b3,g',s',a1,a2,a3,Y,am,b4,b5⟩:=bi _ (w.at d) al _ _ Sh (by rw [ap];omega) b0
      exact⟨n+1,gs',w',b1,b2,q',b3,g',s',MC (a9.trans a4) a1,a2,a3,Y,am,b4,b5⟩)
def Gi(P:Program):Judge P where
 main:=true
 ok Q g s:=∀gs w sl t q Sh,Hc P gs w t q Sh g s->Reaches P gs w sl t s Q
 stop {Q g s} h:=λgs w sl t q Sh hC=>⟨0,gs,w,sl,t,q,Sh,g,s,rfl,hC,h,λ_ _ h=>h,rfl,.refl _,rfl⟩
 step {Q g s} h:=λgs w sl t q Sh hC=>by
  obtain⟨n,gs',w',K,O,q',U,g',s',V,Y,Z,ac,ag,al,am⟩:=VN h _ gs w sl t q Sh (Nat.le_refl _) hC
  obtain⟨ap,aq,aw,ay,az,a0,a1,a2,a3,k1,a4,a5,a6,a7,a8,a9⟩:=Z gs' w' K O q' U Y
  refine⟨n+ap,aq,aw,ay,az,a0,a1,a2,a3,?_,a4,a5,λb o h=>a6 b o (ac b o h),a7.trans ag,al.trans a8,a9.trans am⟩
  rw [runNT_add,V];exact k1
 trans {Q R g s} h k:=λgs w sl t q Sh hC=>by
  obtain⟨n,gs',w',K,O,q',U,g',s',V,Y,Z,ac,ag,al,am⟩:=h gs w sl t q Sh hC
  obtain⟨ap,aq,aw,ay,az,a0,a1,a2,a3,k1,a4,a5,a6,a7,a8,a9⟩:=k g' s' Z gs' w' K O q' U Y
  refine⟨n+ap,aq,aw,ay,az,a0,a1,a2,a3,?_,a4,a5,λb o h=>a6 b o (ac b o h),a7.trans ag,al.trans a8,a9.trans am⟩
  rw [runNT_add,V];exact k1
 ghost {Q g s s₀} bb h:=λgs w sl t q Sh hC=>by
  have bd:0<gs.size:=(Array.getElem?_eq_some_iff.1 hC.main).1
  have be:Hc P gs w t q Sh g s₀:=⟨hC.main,hC.lv,by
   rw [← RD (s:=s)];exact hC.B9.ghost bd (by simpa [lone] using bb),hC.over,hC.hears⟩
  obtain⟨n,gs',w',K,O,q',U,g',s',V,Y,Z,ac,ag,al,am⟩:=h gs w sl t q Sh be
  exact⟨n,gs',w',K,O,q',U,g',s',V,Y,Z,λb o h=>ac b o (bb.ext b o h),ag,al,am⟩
end Pal
namespace Pal
open Go Go.Conc
open Go.ConcN (upd upd_same upd_ne)
section
variable {t u:Trace}{w w':World}{N:Nat}{S:Nat->St}{Sh:Nat->Prop}
theorem BW.ext(h:BW t w N S Sh)(ac:∀said,¬Race said (t++u))(hu:∀op∈u,∀a,op.act.touch? =some a->∀b,CO a.loc=some b->Sh b)
  (ag:∀op∈u,op.act.low w.heap.size) (Y:w'.heap.size=w.heap.size) (hw:∀b,¬Sh b->w'.heap[b]? =w.heap[b]?):BW (t++u) w' N S Sh:=by
 have hold:∀x a b,touchAt (t++u) x=some a->CO a.loc=some b->¬Sh b->touchAt t x=some a:=by
  intro x a b U hb O;obtain⟨op,K,Z⟩:=touch_of U;rcases getElem?_append_cases K with⟨aw,al⟩ | ⟨_,am⟩
  ·rw [touchAt_of al];exact Z
  ·exact absurd (hu op am a Z b hb) O
 have O:∀i,i<N->∀b,((S i).H b≠none∨(S i).E b≠none)->¬Sh b:=by
  intro i hi b hb ap;have:=h.sh i hi b ap;exact hb.elim (λx=>x this.1) (λx=>x this.2)
 refine⟨λi hi=>⟨λb o K=>?_,λb o K=>?_,(h.fits i hi).d⟩,h.hh,h.sh,λb hb=>by rw [Y];exact h.F4 b hb,ac,λop K=>?_,λi hi b hb x a U V=>?_,λi hi b hb x a U V aq=>?_⟩
 ·rw [hw b (O i hi b (.inr (by rw [K];simp)))];exact(h.fits i hi).e b o K
 ·rw [hw b (O i hi b (.inl (by rw [K];simp)))];exact(h.fits i hi).h b o K
 ·rcases Array.mem_append.1 K with K | K
  ·rw [Y];exact h.low op K
  ·rw [Y];exact ag op K
 ·exact(h.kH i hi b hb x a (hold x a b U V (O i hi b (.inl hb))) V).app _
 ·exact(h.kE i hi b hb x a (hold x a b U V (O i hi b (.inr hb))) V aq).app _
theorem BW.congr{S':Nat->St}(h:BW t w N S Sh)(K:∀i,i<N->(S' i).E=(S i).E/\(S' i).H=(S i).H):BW t w N S' Sh:=by
 refine⟨λi hi=>⟨by rw [(K i hi).1];exact(h.fits i hi).e,by rw [(K i hi).2];exact(h.fits i hi).h,by rw [(K i hi).1,(K i hi).2];exact(h.fits i hi).d⟩,λi j hi O U b=>?_,λi hi b=>?_,h.F4,h.clean,h.low,λi hi b=>?_,λi hi b=>?_⟩
 ·rw [(K i hi).2,(K j O).1,(K j O).2];exact h.hh i j hi O U b
 ·rw [(K i hi).1,(K i hi).2];exact h.sh i hi b
 ·rw [(K i hi).2];exact h.kH i hi b
 ·rw [(K i hi).1];exact h.kE i hi b
theorem BW.less(h:BW t w N S Sh){i:Nat}{s':St}(ag:∀b o,s'.E b=some o->(S i).E b=some o)(al:∀b o,s'.H b=some o->(S i).H b=some o):BW t w N (upd S i s') Sh:=by
 have V:∀j b o,(upd S i s' j).E b=some o->(S j).E b=some o:=by
  intro j b o K;by_cases e:j=i
  ·subst e;rw [upd_same] at K;exact ag b o K
  ·rwa [upd_ne _ _ e] at K
 have e2:∀j b o,(upd S i s' j).H b=some o->(S j).H b=some o:=by
  intro j b o K;by_cases e:j=i
  ·subst e;rw [upd_same] at K;exact al b o K
  ·rwa [upd_ne _ _ e] at K
 have n1:∀j b,(S j).E b=none->(upd S i s' j).E b=none:=by
  intro j b hb;cases U:(upd S i s' j).E b with
  | none=>rfl
  | some o=>rw [V j b o U] at hb;cases hb
 have n2:∀j b,(S j).H b=none->(upd S i s' j).H b=none:=by
  intro j b hb;cases U:(upd S i s' j).H b with
  | none=>rfl
  | some o=>rw [e2 j b o U] at hb;cases hb
 have p1:∀j b,(upd S i s' j).E b≠none->(S j).E b≠none:=λj b hb x=>hb (n1 j b x);have p2:∀j b,(upd S i s' j).H b≠none->(S j).H b≠none:=λj b hb x=>hb (n2 j b x);exact⟨λj O=>⟨λb o K=>(h.fits j O).e b o (V j b o K),λb o K=>(h.fits j O).h b o (e2 j b o K),λb hb=>n2 j b ((h.fits j O).d b (p1 j b hb))⟩,
  λa c Y Z ac b hb=>⟨n2 c b (h.hh a c Y Z ac b (p2 a b hb)).1,n1 c b (h.hh a c Y Z ac b (p2 a b hb)).2⟩,
  λj O b hb=>⟨n2 j b (h.sh j O b hb).1,n1 j b (h.sh j O b hb).2⟩,h.F4,h.clean,h.low,
  λj O b hb=>h.kH j O b (p2 j b hb),λj O b hb=>h.kE j O b (p1 j b hb)⟩
theorem BW.push(h:BW t w N S Sh){i:Nat}(hi:i<N){E:LH}(Z:∀b o,E b=some o->(S i).E b=some o)
  (al:∀b,E b≠none->∀x a,touchAt t x=some a->CO a.loc=some b->a.write=true->Knows t N x):BW t w (N+1) (upd S N ⟨E,λ_=>none,false⟩) Sh:=by
 have O:∀j,j<N->upd S N ⟨E,λ_=>none,false⟩ j=S j:=λj K=>upd_ne _ _ (by omega);have ap:∀b,E b≠none->(S i).E b≠none:=λb hb=>by obtain⟨o,V⟩:=HW hb;rw [Z b o V];simp
 have ag:∀b,(S i).E b=none->E b=none:=λb hb=>by
  cases ac:E b with
  | none=>rfl
  | some o=>rw [Z b o ac] at hb;cases hb
 have cs:∀j,j<N+1->j<N∨j=N:=λj K=>by omega
 constructor
 ·intro j K;rcases cs j K with K | rfl
  ·rw [O j K];exact h.fits j K
  ·rw [upd_same];exact⟨λb o V=>(h.fits i hi).e b o (Z b o V),λb o V=>(by cases V),λb _=>rfl⟩
 ·intro a c U Y am b hb;rcases cs a U with U | rfl
  ·rw [O a U] at hb;rcases cs c Y with Y | rfl
   ·rw [O c Y];exact h.hh a c U Y am b hb
   ·rw [upd_same];refine⟨rfl,ag b ?_⟩;by_cases e:a=i
    ·subst e;cases ac:(S a).E b with
     | none=>rfl
     | some o=>exact absurd ((h.fits a U).d b (by rw [ac];simp)) hb
    ·exact(h.hh a i U hi e b hb).2
  ·rw [upd_same] at hb;exact absurd rfl hb
 ·intro j K b hb;rcases cs j K with K | rfl
  ·rw [O j K];exact h.sh j K b hb
  ·rw [upd_same];exact⟨rfl,ag b (h.sh i hi b hb).2⟩
 ·exact h.F4
 ·exact h.clean
 ·exact h.low
 ·intro j K b hb;rcases cs j K with K | rfl
  ·rw [O j K] at hb;exact h.kH j K b hb
  ·rw [upd_same] at hb;exact absurd rfl hb
 ·intro j K b hb;rcases cs j K with K | rfl
  ·rw [O j K] at hb;exact h.kE j K b hb
  ·rw [upd_same] at hb;exact al b hb
theorem BW.share(h:BW t w N S Sh){i:Nat}(hi:i<N){b₀:Nat}{o₀:Obj}(U:(S i).H b₀=some o₀):
  BW t w N (upd S i {S i with H:=λb=>if b=b₀ then none else(S i).H b}) (λb=>Sh b∨b=b₀):=by
 have K:BW t w N (upd S i {S i with H:=λb=>if b=b₀ then none else(S i).H b}) Sh:=
  h.less (λb o O=>O) (λb o O=>by simp only at O;split at O <;> first | (cases O;done) | exact O)
 have Z:b₀<w.heap.size:=by
  have:=(h.fits i hi).h b₀ o₀ U;rcases Nat.lt_or_ge b₀ w.heap.size with V | V
  ·exact V
  ·simp [Array.getElem?_eq_none V] at this
 refine⟨K.fits,K.hh,λj Y b hb=>?_,λb hb=>hb.elim (K.F4 b) (λe=>e▸Z),K.clean,K.low,K.kH,K.kE⟩;rcases hb with hb | rfl
 ·exact K.sh j Y b hb
 ·by_cases e:j=i
  ·subst e;rw [upd_same];refine⟨by simp,?_⟩;cases ac:(S j).E b with
   | none=>rfl
   | some o=>have:=(h.fits j Y).d b (by rw [ac];simp);rw [U] at this;cases this
  ·rw [upd_ne _ _ e];exact h.hh i j hi Y (Ne.symm e) b (by rw [U];simp)
end
open Go.ConcN (sumTo sumTo_upd)
abbrev GP:=Gs_
structure M4 where
 l:Bool
 k:Bool
 s:Bool
 w:Nat
instance:DecidableEq M4:=λa b=>decidable_of_iff (a.l=b.l/\a.k=b.k/\a.s=b.s/\a.w=b.w) ⟨λh=>by cases a;cases b;simp_all,λh=>by subst h;simp⟩
def M4.zero:M4:=⟨false,false,false,0⟩
def M4.num(m:M4):Int:=((m.l.toNat+2*m.k.toNat+4*m.s.toNat+8*m.w:Nat):Int)
inductive LP where
 | FT | G4 | Eg (sv aw:Bool) (it:Nat) | Cj (sv aw:Bool) (it:Nat) (old:M4) | Ic (sv:Bool) | Cv (sv:Bool) | FP | Es (sv:Bool) | Ee (ex:Bool) | len | Ky | JH | Fu
 | Gr | JX | JY | JK | HI | EC (old:M4) | G6 | ER (st:Bool) | EU
inductive Ph where
 | G2 (k:Nat) | Gm | IF | Ha | GD | GZ | Fc
 | Dl | FQ (m:Nat) | G7 (v:Nat) | HO | Fs | G0 | FW | F5 | Hu
 | F3 (j:Nat) | Ik (j:Nat) | HE (j:Nat) | GM (j:Nat) | FG (j:Nat) | GG | FA (K:List Nat) (vs:Lv_)
 | HK | Ir | Ij | Im (j:Nat)
 | lk (k:Nat) (p:LP)
inductive Nx where
 | ph (p:Ph) | gone (d:Nat)
structure Fam where
 wg:Nat
 mu:Nat
 fd:Nat
 ty:TypeId
 bN:TypeId
 bW:TypeId
 n:Nat
 msg:Nat->Value->LH->Prop
 fin:GP
namespace Fam
variable (F:Fam)
def has(_:Fam)(_:Nat):Bool:=false
def KK:Int:=4294967296
def HL(st sm:Int):Obj:= .cells #[.int .u64 st,.int .u32 sm] F.ty (0,0)
def word(v wt:Nat):Int:=(v:Int)*KK+wt
def WG(w:World)(v wt sm:Nat):Prop:=w.heap[F.wg]? =some (F.HL (word v wt) sm)
def put(w:World)(v wt sm:Nat):World:={w with heap:=w.heap.setIfInBounds F.wg (F.HL (word v wt) sm)}
def sA:Addr:=⟨F.wg,0,none⟩
def mA:Addr:=⟨F.wg,1,none⟩
def HN(st sm:Int):Obj:= .cells #[.int .i32 st,.int .u32 sm] F.bN (0,0)
def MU(w:World)(m:M4)(q:Nat):Prop:=w.heap[F.mu]? =some (F.HN m.num q)
def FC(w:World)(m:M4)(q:Nat):World:={w with heap:=w.heap.setIfInBounds F.mu (F.HN m.num q)}
def uA:Addr:=⟨F.mu,0,none⟩
def qA:Addr:=⟨F.mu,1,none⟩
def Iq(f:Nat->Value):Obj:= .cells (Array.ofFn λi:Fin F.n=>f i) F.bW (0,0)
def FD(w:World)(f:Nat->Value):Prop:=w.heap[F.fd]? =some (F.Iq f)
def G5(w:World)(f:Nat->Value):World:={w with heap:=w.heap.setIfInBounds F.fd (F.Iq f)}
def Ca(a:Addr):Event:=⟨.cell a,false,true⟩
def Em(a:Addr):Event:=⟨.cell a,true,true⟩
def CH(m:Mark):Event:=⟨.mark m,false,true⟩
def act:Ph->Nat->Nat->Nat->Option ((Nat×Nat×Nat)×Array Event×Nx)
 | .Gm,v,wt,sm=>some ((v,wt,sm),#[CH (.releaseMerge F.sA)],.ph .IF)
 | .IF,v,wt,sm=>some ((v,wt,sm),#[CH .disable],.ph .Ha)
 | .Ha,v,wt,sm=>if 1<=v/\v<2147483648/\wt<=1 then some ((v - 1,wt,sm),#[Ca F.sA,Em F.sA],if v=1/\wt=1 then .ph .GD else .gone 1) else none
 | .GD,v,wt,sm=>if v=0/\wt=1 then some ((0,1,sm),#[Ca F.sA],.ph .GZ) else none
 | .GZ,v,wt,sm=>if v=0/\wt=1 then some ((0,0,sm),#[Em F.sA],.ph .Fc) else none
 | .Fc,v,wt,sm=>if sm=0 then some ((v,wt,1),semEvents F.mA,.gone 1) else none
 | .Dl,v,wt,sm=>some ((v,wt,sm),#[CH .disable],.ph (.FQ F.n))
 | .FQ m,v,wt,sm=>if v<=m/\wt=0 then some ((v,0,sm),#[Ca F.sA],if v=0 then .ph .FW else .ph (.G7 v)) else none
 | .G7 m,v,wt,sm=>if v<=m/\1<=m/\wt=0 then some (if v=m then((v,1,sm),#[Ca F.sA,Em F.sA],.ph .Ir) else((v,0,sm),#[Ca F.sA],.ph (.FQ (m - 1)))) else none
 | .HO,v,wt,sm=>some ((v,wt,sm),#[CH (.write F.mA)],.ph .Fs)
 | .Fs,v,wt,sm=>if sm=1 then some ((v,wt,0),semEvents F.mA,.ph .G0) else none
 | .G0,v,wt,sm=>if v=0/\wt=0 then some ((0,0,sm),#[Ca F.sA],.ph .FW) else none
 | .FW,v,wt,sm=>some ((v,wt,sm),#[CH .enable],.ph .Ij)
 | .HK,v,wt,sm=>some ((v,wt,sm),#[],.ph .Gm)
 | .Ir,v,wt,sm=>some ((v,wt,sm),#[],.ph .HO)
 | .Ij,v,wt,sm=>some ((v,wt,sm),#[],.ph .F5)
 | .Im j,v,wt,sm=>some ((v,wt,sm),#[],.ph (.HE j))
 | .F3 j,v,wt,sm=>some ((v,wt,sm),#[CH .disable],.ph (.Ik j))
 | .Ik j,v,wt,sm=>if v<2147483647/\wt=0 then some ((v+1,0,sm),#[Ca F.sA,Em F.sA],if v=0 then .ph (.Im j) else .ph (.GM j)) else none
 | .HE j,v,wt,sm=>some ((v,wt,sm),#[CH (.read F.mA)],.ph (.GM j))
 | .GM j,v,wt,sm=>some ((v,wt,sm),#[CH .enable],.ph (.FG j))
 | _,_,_,_=>none
abbrev LO:=M4×Nat×Array Event×Option LP
def Fq(sv aw:Bool)(it:Nat)(old m:M4)(q:Nat):List LO:=
 (if old.l=true/\old.s=false/\it<4 then
  (if aw=false/\old.k=false/\old.w≠0 then
   [if m=old then({m with k:=true},q,#[Ca F.uA,Em F.uA],some (.Eg sv true (it+1))) else(m,q,#[Ca F.uA],some (.Eg sv aw (it+1)))]
  else [(m,q,#[],some (.Cj sv aw (it+1) m))])
 else [])++
 (if m=old then
  (if old.l=false/\old.s=false then [({m with l:=true,k:= !aw&&m.k},q,#[Ca F.uA,Em F.uA],some .len)]
  else [({m with k:= !aw&&m.k,s:=m.s || (sv&&m.l),w:=m.w+1},q,#[Ca F.uA,Em F.uA],some (.Ic sv)),({m with k:= !aw&&m.k,s:=m.s || (sv&&m.l),w:=m.w+1},q,#[Ca F.uA,Em F.uA],some (.Cv sv))])
 else [(m,q,#[Ca F.uA],some (.Eg sv aw it))])
def BX:LP->M4->Nat->List LO
 | .FT,m,q=> [(m,q,#[CH .disable],some .G4)]
 | .G4,m,q=>if m=M4.zero then [(⟨true,false,false,0⟩,q,#[Ca F.uA,Em F.uA],some .len)] else [(m,q,#[Ca F.uA],some (.Eg false false 0))]
 | .Eg sv aw it,m,q=> [(m,q,#[],some (.Cj sv aw it m))]
 | .Cj sv aw it old,m,q=>F.Fq sv aw it old m q
 | .Ic sv,m,q=> [(m,q,#[],some (.Cv sv))]
 | .Cv sv,m,q=> [(m,q - 1,semEvents F.qA,some (if sv then .Es true else .FP))]
 | .FP,m,q=> [(m,q,#[],some (.Es false)),(m,q,#[],some (.Es true))]
 | .Es sv,m,q=>if m.s=true then [(m,q,#[],some (.Ee (!sv || m.w==1)))] else [(m,q,#[],some (.Cj sv true 0 m))]
 | .Ee ex,m,q=> [(⟨true,m.k,!ex,m.w - 1⟩,q,#[Ca F.uA,Em F.uA],some .len)]
 | .len,m,q=> [(m,q,#[CH .enable],some .Ky)]
 | .Ky,m,q=> [(m,q,#[],some .JH)]
 | .JH,m,q=> [(m,q,#[CH (.acquire F.uA)],some .Fu)]
 | .Fu,_,_=> []
 | .Gr,m,q=> [(m,q,#[],some .JX)]
 | .JX,m,q=> [(m,q,#[],some .JY)]
 | .JY,m,q=> [(m,q,#[CH (.releaseMerge F.uA)],some .JK)]
 | .JK,m,q=> [(m,q,#[CH .disable],some .HI)]
 | .HI,m,q=> [({m with l:=false},q,#[Ca F.uA,Em F.uA],some (if m.s=true then .ER true else if m.k=false/\m.w≠0 then .EC {m with l:=false} else .EU))]
 | .EC old,m,q=>if m=old then [(⟨false,true,false,old.w - 1⟩,q,#[Ca F.uA,Em F.uA],some (.ER false))] else [(m,q,#[Ca F.uA],some .G6)]
 | .G6,m,q=> [(m,q,#[],some (if m.l=false/\m.k=false/\m.s=false/\m.w≠0 then .EC m else .EU))]
 | .ER _,m,q=> [(m,q+1,semEvents F.qA,some .EU)]
 | .EU,m,q=> [(m,q,#[CH .enable],none)]
def CB:Ph->Bool
 | .F3 _ | .Ik _ | .HE _ | .GM _ | .FG _ | .GG | .FA _ _ | .Im _=>true
 | .Dl | .FQ _ | .G7 _ | .HO | .Fs | .G0 | .FW | .F5 | .Hu | .Ir | .Ij=>true
 | _=>false
def CN:Ph->Bool
 | .IF | .Ha | .GD | .GZ | .Fc=>true
 | _=>false
def Jd:Ph->St->St
 | .Gm,_=> .quiet
 | _,s=>s
def start(_:Fam)(k:Nat):Ph:= .lk k .FT
def Fp(j:Nat):Ph:=if j+1=F.n then .GG else .F3 (j+1)
def Eu(j:Nat):Ph:=if j+1=F.n then .Dl else .F3 (j+1)
def Db(k:Nat):Option LP->Ph
 | some p=> .lk k p
 | none=> .HK
end Fam
def C9(m:M4):Prop:=m.w<134217728
def Dy:LP->M4->Nat->Prop
 | .Cj sv aw it old,m,_=>(aw=true->old.k=true)/\(sv=true->aw=true)/\it<=4/\C9 old/\C9 m/\(aw=true->m.k=true)
 | .Eg sv aw it,m,_=>(sv=true->aw=true)/\it<=4/\C9 m/\(aw=true->m.k=true)
 | .Cv _,_,q=>q≠0
 | .Es _,m,_=>(m.s=true->m.l=false/\m.k=false/\m.w≠0)/\(m.s=false->m.k=true)/\C9 m
 | .Ee ex,m,_=>m.s=true/\m.l=false/\m.k=false/\1<=m.w/\(ex=false->2<=m.w)/\C9 m
 | .HI,m,_=>m.l=true/\C9 m
 | .EC old,m,_=>old.l=false/\old.k=false/\old.s=false/\old.w≠0/\C9 old/\C9 m
 | .ER _,m,q=>q<=1/\C9 m
 | _,m,_=>C9 m
def Way(P:Program)(main:Bool)(X:GP):GP:=(AY P main).ok X
theorem Jr.Ag{P:Program}{main:Bool}{Q K:GP}(h:∀g s,Q g s->K g s):∀{r:Rk} {g:Goroutine} {s:St},Jr P main Q r g s->Jr P main K r g s
 | .leaf,_,_,x=>h _ _ x
 | .node _,_,_,.inl x=> .inl (h _ _ x)
 | .node _,_,_,.inr ⟨O,x⟩=> .inr ⟨O,λw f=>let ⟨g',s',w',es,U,V,Y⟩:=x w f;⟨g',s',w',es,U,Jr.Ag h V,Y⟩⟩
theorem Way.Ag{P:Program}{main:Bool}{Q K:GP}(h:∀g s,Q g s->K g s){g:Goroutine}{s:St}(x:Way P main Q g s):Way P main K g s:=
 let ⟨r,O⟩:=x;⟨r,Jr.Ag (λg s ⟨s₀,a,b⟩=>⟨s₀,a,h g s₀ b⟩) O⟩
def Gn(w K w':World):Prop:=w'.heap=K.heap/\w'.tape=w.tape/\F6 w.os w'.os/\w'.output=w.output
section
variable (P:Program)(F:Fam)
def Mh(X:Ph->GP)(main:Bool):Nx->GP
 | .ph p,g,s=>Way P main (X p) g s
 | .gone d,g,_=>∃q,QuitsD P q d g
def Fam.Jw(H:LH)(f:Nat->Value):LH:=λb=>if b=F.fd then some (F.Iq f) else H b
structure GK (X:Ph->GP) (p:Ph) (g:Goroutine) (s:St):Prop where
 run:g.status= .running
 offers:g.offers=none
 quiet:Fam.CN p=true->s= .quiet
 live:Fam.CN p=false->s.q=false
 act:∀v wt sm v' wt' sm' es K,F.act p v wt sm=some ((v',wt',sm'),es,K)->
  ∃g',(∀w,F.WG w v wt sm->stepG P (Fam.CB p) g w= .go g' (F.put w v' wt' sm') es)/\g'.status= .running/\Mh P X (Fam.CB p) K g' (Fam.Jd p s)
 II:(p= .Fc∨∃k b,p= .lk k (.ER b))->mayWake P g=true
 ET:p= .Fs->∀w v wt,F.WG w v wt 0->stepG P true g w= .go {g with status:= .blocked} w #[]
 go:∀j,p= .FG j->∃g' child,g'.status= .running/\child.status= .running/\(∀w,stepG P true g w= .spawn g' child w #[])/\Way P false (X (F.start j)) child ⟨s.E,λ_=>none,false⟩/\Way P true (X (F.Eu j)) g' s
 lk:∀k l,p= .lk k l->l≠ .Fu->∀w m q,F.MU w m q->Dy l m q->∃m' q' es x g' w',(m',q',es,x)∈F.BX l m q/\stepG P false g w= .go g' w' es/\Gn w (F.FC w m' q') w'/\g'.status= .running/\Way P false (X (Fam.Db k x)) g' s
 Cv:∀k sv,p= .lk k (.Cv sv)->∀w m,F.MU w m 0->stepG P false g w= .go {g with status:= .blocked} w #[]
 store:∀k,p= .lk k .Fu->∃v,F.msg k v s.E/\∃g',g'.status= .running/\(∀w f,F.FD w f->stepG P false g w= .go g' (F.G5 w (upd f k v)) #[⟨.cell ⟨F.fd,k,none⟩,true,false⟩])/\Way P false (X (.lk k .Gr)) g' s
 fin:p= .F5->∃g',(∀w,stepG P true g w= .go g' w #[Fam.CH (.acquire F.sA)])/\∀E' f,Le s.E E'->E' F.fd=none->(∀b,E' b≠none->s.H b=none)->(∀k,k<F.n->F.msg k (f k) E')->F.fin g' ⟨E',F.Jw s.H f,false⟩
theorem Mh.Ag{X O:Ph->GP}(h:∀p g s,X p g s->O p g s){main:Bool}{K:Nx}{g:Goroutine}{s:St}(x:Mh P X main K g s):Mh P O main K g s:=by
 cases K with
 | ph p=>exact Way.Ag (h p) x
 | gone d=>exact x
theorem GK.Ag{X Z:Ph->GP}(h:∀p g s,X p g s->Z p g s){p:Ph}{g:Goroutine}{s:St}(x:GK P F X p g s):GK P F Z p g s where
 run:=x.run
 offers:=x.offers
 quiet:=x.quiet
 live:=x.live
 act v wt sm v' wt' sm' es ac e:=let ⟨g',K,O,U⟩:=x.act v wt sm v' wt' sm' es ac e;⟨g',K,O,U.Ag P h⟩
 II:=x.II
 ET:=x.ET
 go j e:=let ⟨g',c,K,O,U,V,Y⟩:=x.go j e;⟨g',c,K,O,U,V.Ag (h _),Y.Ag (h _)⟩
 lk k l e ag w m q hm al:=let ⟨m',q',es,y,g',w',K,O,U,V,Y⟩:=x.lk k l e ag w m q hm al;⟨m',q',es,y,g',w',K,O,U,V,Y.Ag (h _)⟩
 Cv:=x.Cv
 store k e:=let ⟨v,K,g',O,U,V⟩:=x.store k e;⟨v,K,g',O,U,V.Ag (h _)⟩
 fin:=x.fin
def Stop(p:Ph)(g:Goroutine)(s:St):Prop:=∃X:Ph->GP,(∀p g s,X p g s->GK P F X p g s)/\X p g s
variable {P F}
theorem Stop.law{p:Ph}{g:Goroutine}{s:St}(h:Stop P F p g s):GK P F (Stop P F) p g s:=by
 obtain⟨X,O,K⟩:=h;exact(O p g s K).Ag P F λp g s K=>⟨X,O,K⟩
theorem GK.stop{p:Ph}{g:Goroutine}{s:St}(h:GK P F (Stop P F) p g s):Stop P F p g s:=
 ⟨λp g s=>GK P F (Stop P F) p g s,λ_ _ _ x=>x.Ag P F λ_ _ _ y=>y.law,h⟩
end
end Pal
