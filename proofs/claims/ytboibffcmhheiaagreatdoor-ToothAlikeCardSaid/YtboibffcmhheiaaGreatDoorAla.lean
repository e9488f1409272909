/- ToothAlike answers true for every list of numbers, on every schedule; without a condition beyond those of the given row and card. Part 1 of 8. -/
import Derived.Conc.Own5
import Derived.Conc.Listed
import Derived.Conc.DeferLaws
import Derived.Orders
set_option linter.all false
set_option maxRecDepth 100000
namespace Pal
open Go Go.Conc
abbrev LH:=Nat→Option Obj
structure St where
 E:LH
 H:LH
 q:Bool
def St.get(s:St)(b:Nat):Option Obj:=match s.E b with | some o=>some o | none=>s.H b
structure Fits (s:St) (w:World):Prop where
 e:∀b o,s.E b=some o→w.heap[b]? =some o
 h:∀b o,s.H b=some o→w.heap[b]? =some o
 d:∀b,s.E b≠none→s.H b=none
theorem Fits.get{s:St}{w:World}(f:Fits s w){b:Nat}{o:Obj}(h:s.get b=some o):w.heap[b]? =some o:=by
 unfold St.get at h;split at h
 ·rename_i o' K;cases h;exact f.e _ _ K
 ·exact f.h _ _ h
theorem Fits.Ot{s:St}{w:World}(f:Fits s w){b:Nat}{o:Obj}(h:s.H b=some o):b<w.heap.size:=by
 have:=f.h _ _ h;rcases Nat.lt_or_ge b w.heap.size with K | K
 ·exact K
 ·simp [Array.getElem?_eq_none K] at this
theorem Fits.lt{s:St}{w:World}(f:Fits s w){b:Nat}{o:Obj}(h:s.get b=some o):b<w.heap.size:=by
 have:=f.get h;rcases Nat.lt_or_ge b w.heap.size with K | K
 ·exact K
 ·simp [Array.getElem?_eq_none K] at this
def cellAt(o:Obj)(a:Addr):Option Value:=match o with | .cells c _ _=>if a.spot.isSome then none else c[a.off]? | _=>none
def frozenAt(o:Obj)(a:Addr):Bool:=match o with | .cells _ _ (lo,hi)=>lo≤a.off&&a.off<hi | _=>false
def shapeOf(o:Obj):Option (TypeId×Nat):=match o with | .cells c e _=>some (e,c.size) | _=>none
def BJ:Value→Bool | .agg _ | .tuple _=>false | _=>true
def Gt(o:Obj)(a:Addr)(v:Value):Obj:=match o with | .cells c e f=> .cells (if a.spot.isSome then c else c.setIfInBounds a.off v) e f | o=>o
def FT(o:Obj):Bool:=match o with | .cells ..=>false | .chan ..=>false | .pending ..=>false | .view ..=>false | .number ..=>false | _=>true
def St.cell? (s:St)(a:Addr):Option Value:=(s.get a.block).bind (cellAt · a)
def St.upd(s:St)(b:Nat)(o:Obj):St:={s with H:=fun x=>if x=b then some o else s.H x}
theorem LB{w:World}{a:Addr}{o:Obj}(h:w.heap[a.block]? =some o):w.cell? a=cellAt o a:=by
 unfold World.cell? cellAt;rw [h];cases o <;> rfl
theorem Lp{w:World}{a:Addr}{o:Obj}(h:w.heap[a.block]? =some o):w.frozen? a=frozenAt o a:=by
 unfold World.frozen? frozenAt;rw [h];cases o <;> rfl
theorem OR{w:World}{b:Nat}{o:Obj}(h:w.heap[b]? =some o):w.shape? b=shapeOf o:=by
 unfold World.shape? shapeOf;rw [h];cases o <;> rfl
def lp(P:Program){α:Type}:Sem α→St→(α→St→Prop)→(Halt→St→Prop)→Prop
 | .pure a,s,Q,_=>Q a s
 | .load m a k,s,Q,X=>m= .plain∧∃v,s.cell? a=some v∧lp P (k v) s Q X
 | .store m a v k,s,Q,X=>m= .plain∧BJ v=true∧∃o,s.H a.block=some o∧(cellAt o a).isSome=true∧frozenAt o a=false∧lp P k (s.upd a.block (Gt o a v)) Q X
 | .new o k,s,Q,X=>s.q=false∧∀r,s.E r=none→s.H r=none→lp P (k r) (s.upd r o) Q X
 | .shape r k,s,Q,X=>∃o,s.get r=some o∧lp P (k (shapeOf o)) s Q X
 | .freeze _ _ _,_,_,_=>False
 | .frozen a k,s,Q,X=>∃o,s.get a.block=some o∧lp P (k (frozenAt o a)) s Q X
 | .getObj r k,s,Q,X=>∃o,s.get r=some o∧FT o=true∧lp P (k o) s Q X
 | .setObj r o k,s,Q,X=>(∃o₀,s.H r=some o₀∧FT o₀=true)∧FT o=true∧lp P k (s.upd r o) Q X
 | .choose q k,s,Q,X=>if q.forced then lp P (k 0) s Q X else s.q=false∧∀t,lp P (k (q.cut t)) s Q X
 | .sys _ _,_,_,_=>False
 | .program k,s,Q,X=>lp P (k P) s Q X
 | .mark m k,s,Q,X=>((s.q=false∧m= .noRoom)∨∃f,m= .extern f)∧lp P k s Q X
 | .halt h,s,_,X=>X h s
theorem Cl{P:Program}{α:Type}(x:Sem α):∀{s:St} {Q W:α→St→Prop} {X Z:Halt→St→Prop},lp P x s Q X→(∀a s,Q a s→W a s)→(∀h s,X h s→Z h s)→lp P x s W Z:=by
 induction x with
 | pure a=>intro s Q W X Z h K O;exact K _ _ h
 | load m a k U=>intro s Q W X Z h K O;obtain⟨aa,v,ab,ae⟩:=h;exact⟨aa,v,ab,U _ ae K O⟩
 | store m a v k U=>intro s Q W X Z h K O;obtain⟨aa,ab,o,ae,ah,ai,aj⟩:=h;exact⟨aa,ab,o,ae,ah,ai,U aj K O⟩
 | new o k U=>intro s Q W X Z h K O;exact⟨h.1,fun r aa ab=>U _ (h.2 r aa ab) K O⟩
 | shape r k U=>intro s Q W X Z h K O;obtain⟨o,aa,ab⟩:=h;exact⟨o,aa,U _ ab K O⟩
 | freeze a n k U=>intro s Q W X Z h K O;exact h
 | frozen a k U=>intro s Q W X Z h K O;obtain⟨o,aa,ab⟩:=h;exact⟨o,aa,U _ ab K O⟩
 | getObj r k U=>intro s Q W X Z h K O;obtain⟨o,aa,ab,ae⟩:=h;exact⟨o,aa,ab,U _ ae K O⟩
 | setObj r o k U=>intro s Q W X Z h K O;obtain⟨aa,ab,ae⟩:=h;exact⟨aa,ab,U ae K O⟩
 | choose q k U=>
  intro s Q W X Z h K O;simp only [lp] at h ⊢;split
  ·rename_i ag;rw [if_pos ag] at h;exact U _ h K O
  ·rename_i ag;rw [if_neg ag] at h;exact⟨h.1,fun t=>U _ (h.2 t) K O⟩
 | sys c k U=>intro s Q W X Z h K O;exact h
 | program k U=>intro s Q W X Z h K O;exact U _ h K O
 | mark m k U=>intro s Q W X Z h K O;exact⟨h.1,U h.2 K O⟩
 | halt h=>intro s Q W X Z h K O;exact O _ _ h
theorem AD{P:Program}{α β:Type}(x:Sem α)(f:α→Sem β):∀{s:St} {Q:β→St→Prop} {X:Halt→St→Prop},lp P x s (fun a s'=>lp P (f a) s' Q X) X→lp P (x>>=f) s Q X:=by
 show ∀{s:St} {Q:β→St→Prop} {X:Halt→St→Prop},lp P x s (fun a s'=>lp P (f a) s' Q X) X→lp P (Sem.bind x f) s Q X
 induction x with
 | pure a=>intro s Q X h;exact h
 | load m a k K=>intro s Q X h;obtain⟨O,v,U,W⟩:=h;exact⟨O,v,U,K _ W⟩
 | store m a v k K=>intro s Q X h;obtain⟨O,U,o,W,aa,ab,ae⟩:=h;exact⟨O,U,o,W,aa,ab,K ae⟩
 | new o k K=>intro s Q X h;exact⟨h.1,fun r O U=>K _ (h.2 r O U)⟩
 | shape r k K=>intro s Q X h;obtain⟨o,O,U⟩:=h;exact⟨o,O,K _ U⟩
 | freeze a n k K=>intro s Q X h;exact h
 | frozen a k K=>intro s Q X h;obtain⟨o,O,U⟩:=h;exact⟨o,O,K _ U⟩
 | getObj r k K=>intro s Q X h;obtain⟨o,O,U,W⟩:=h;exact⟨o,O,U,K _ W⟩
 | setObj r o k K=>intro s Q X h;obtain⟨O,U,W⟩:=h;exact⟨O,U,K W⟩
 | choose q k K=>
  intro s Q X h;simp only [lp,Sem.bind] at h ⊢;split
  ·rename_i Z;rw [if_pos Z] at h;exact K _ h
  ·rename_i Z;rw [if_neg Z] at h;exact⟨h.1,fun t=>K _ (h.2 t)⟩
 | sys c k K=>intro s Q X h;exact h
 | program k K=>intro s Q X h;exact K _ h
 | mark m k K=>intro s Q X h;exact⟨h.1,K h.2⟩
 | halt h=>intro s Q X h;exact h
structure Fr (s:St) (w:World) (s':St) (w':World):Prop where
 size:w.heap.size≤w'.heap.size
 keep:∀b,b<w.heap.size→s.H b=none→w'.heap[b]? =w.heap[b]?
 own:∀b,s'.H b≠none→s.H b≠none∨w.heap.size≤b
 ext:∀b o,s.E b=some o→s'.E b=some o
 CW:∀b,s'.E b≠none→s.E b≠none∨s.H b≠none∨w.heap.size≤b
 tape:w'.tape=w.tape
 os:w'.os=w.os
 output:w'.output=w.output
theorem Fr.refl(s:St)(w:World):Fr s w s w:=
 ⟨Nat.le_refl _,fun _ _ _=>rfl,fun _ h=> .inl h,fun _ _ h=>h,fun _ h=> .inl h,rfl,rfl,rfl⟩
theorem Fr.trans{s K O:St}{w U W:World}(h:Fr s w K U)(k:Fr K U O W):Fr s w O W where
 size:=Nat.le_trans h.size k.size
 keep b hb Z:=by
  rw [k.keep b (Nat.lt_of_lt_of_le hb h.size) ?_,h.keep b hb Z];by_cases aa:K.H b=none
  ·exact aa
  ·rcases h.own b aa with x | x
   ·exact absurd Z x
   ·omega
 own b hb:=by
  rcases k.own b hb with x | x
  ·exact h.own b x
  ·exact .inr (Nat.le_trans h.size x)
 ext b o ab:=k.ext b o (h.ext b o ab)
 CW b hb:=by
  rcases k.CW b hb with x | x | x
  ·exact h.CW b x
  ·rcases h.own b x with y | y
   ·exact .inr (.inl y)
   ·exact .inr (.inr y)
  ·exact .inr (.inr (Nat.le_trans h.size x))
 tape:=k.tape.trans h.tape
 os:=k.os.trans h.os
 output:=k.output.trans h.output
def D2(s:St)(w w':World)(b:Nat)(write:Bool):Prop:=
 b<w'.heap.size∧(s.H b≠none∨w.heap.size≤b∨(s.E b≠none∧write=false))
def Ev(s:St)(w w':World)(e:Event):Prop:=
 match e.loc with
 | .cell a=>e.sync=false∧D2 s w w' a.block e.write
 | .obj r=>e.sync=false∧D2 s w w' r e.write
 | .mark (.extern _)=>True
 | .mark .noRoom=>True
 | _=>False
theorem D2.mono{s K:St}{w O w' U:World}{b:Nat}{wr:Bool}(h:Fr s w K O)(hs:w'.heap.size≤U.heap.size)(t:D2 K O w' b wr):D2 s w U b wr:=by
 refine⟨Nat.lt_of_lt_of_le t.1 hs,?_⟩;rcases t.2 with x | x | ⟨x,y⟩
 ·rcases h.own b x with z | z
  ·exact .inl z
  ·exact .inr (.inl z)
 ·exact .inr (.inl (Nat.le_trans h.size x))
 ·rcases h.CW b x with z | z | z
  ·exact .inr (.inr ⟨z,y⟩)
  ·exact .inl z
  ·exact .inr (.inl z)
theorem Ev.mono{s K:St}{w O w' U:World}{e:Event}(h:Fr s w K O)(hs:w'.heap.size≤U.heap.size)(t:Ev K O w' e):Ev s w U e:=by
 unfold Ev at t ⊢;split <;> rename_i he <;> simp only [he] at t
 ·exact⟨t.1,t.2.mono h hs⟩
 ·exact⟨t.1,t.2.mono h hs⟩
 ·trivial
 ·trivial
def GA{α:Type}:Result α→World | .ok _ w=>w | .halt _ w=>w
def R7{α:Type}(Q:α→St→Prop)(X:Halt→St→Prop)(s:St):Result α→Prop | .ok a _=>Q a s | .halt h _=>X h s
theorem Mg{s:St}{b:Nat}{o:Obj}(h:s.get b=some o)(K:s.H b=none):s.E b≠none:=by
 intro e;unfold St.get at h;rw [e] at h;simp only at h;rw [K] at h;cases h
theorem JY{s:St}{w w':World}{b:Nat}{o:Obj}(f:Fits s w)(U:s.E b=none)(hb:w'.heap[b]? =some o)(W:∀c,c≠b→∀x,w.heap[c]? =some x→w'.heap[c]? =some x):Fits (s.upd b o) w' where
 e c x K:=by
  have O:c≠b:=fun e=>by subst e;simp [St.upd] at K;rw [U] at K;cases K
  exact W c O x (f.e c x K)
 h c x K:=by
  simp only [St.upd] at K;split at K
  ·rename_i e;subst e;cases K;exact hb
  ·rename_i O;exact W c O x (f.h c x K)
 d c K:=by
  have O:c≠b:=fun e=>by subst e;exact K U
  simp only [St.upd,if_neg O];exact f.d c K
theorem Ty{α:Type}(P:Program)(x:Sem α)(w:World)(es:Array Event)(e:Event)(h:e∈es):e∈x.events P w es:=by
 rw [Sem.events_acc];exact Array.mem_append.2 (.inl h)
theorem IA{P:Program}{α:Type}(x:Sem α):∀{s:St} {w:World} {Q:α→St→Prop} {X:Halt→St→Prop},lp P x s Q X→Fits s w→
  ∃s',Fits s' (GA (x.run P w))∧Fr s w s' (GA (x.run P w))∧(∀e∈x.events P w #[],Ev s w (GA (x.run P w)) e)∧R7 Q X s' (x.run P w):=by
 induction x with
 | pure a=>intro s w Q X h f;exact⟨s,f,.refl _ _,by simp [Sem.events_pure'],h⟩
 | load m a k O=>
  intro s w Q X h f;obtain⟨rfl,v,ar,h⟩:=h;obtain⟨o,K,aE⟩:=Option.bind_eq_some_iff.1 ar;have hw:=f.get K;have au:w.cell? a=some v:=by rw [LB hw,aE]
  have U:(Sem.load Mode.plain a k).run P w=(k v).run P w:=by simp [Sem.run,au]
  have W:(Sem.load Mode.plain a k).events P w #[]= #[⟨.cell a,false,false⟩]++(k v).events P w #[]:=by
   rw [← Sem.events_acc];simp only [Sem.events,Sem.runT,au];rfl
  rw [U,W];obtain⟨s',aa,Z,ab,ae⟩:=O v h f;refine⟨s',aa,Z,fun e he=>?_,ae⟩;rcases Array.mem_append.1 he with he | he
  ·simp at he;subst he;refine⟨rfl,Nat.lt_of_lt_of_le (f.lt K) Z.size,?_⟩;by_cases am:s.H a.block=none
   ·refine .inr (.inr ⟨?_,rfl⟩);exact Mg K am
   ·exact .inl am
  ·exact ab e he
 | store m a v k O=>
  intro s w Q X h f;obtain⟨rfl,ar,o,K,au,aF,h⟩:=h;have hw:=f.h _ _ K;obtain⟨u,hu⟩:=Option.isSome_iff_exists.1 au;have aA:w.cell? a=some u:=by rw [LB hw,hu]
  have aB:w.frozen? a=false:=by rw [Lp hw,aF]
  have av:=f.Ot K;obtain⟨ay,az,f0,rfl⟩:∃c e f,o= .cells c e f:=by cases o <;> simp [cellAt] at hu;exact⟨_,_,_,rfl⟩
  have aG:(w.setCell a v).heap[a.block]? =some (Gt (.cells ay az f0) a v):=by
   simp [World.setCell,Gt,Array.getElem?_modify,hw]
  have an:∀c,c≠a.block→(w.setCell a v).heap[c]? =w.heap[c]? :=by
   intro c ai;simp [World.setCell,Array.getElem?_modify,Ne.symm ai]
  have ah:s.E a.block=none:=by
   cases ah:s.E a.block with
   | none=>rfl
   | some x=>have:=f.d a.block (by rw [ah];simp);rw [K] at this;cases this
  have ao:Fits (s.upd a.block (Gt (.cells ay az f0) a v)) (w.setCell a v):=JY f ah aG (fun c ai x aj=>by rw [an c ai];exact aj);have U:(Sem.store Mode.plain a v k).run P w=k.run P (w.setCell a v):=by
   cases v <;> first | (simp [BJ] at ar;done) | simp [Sem.run,aA,aB]
  have W:(Sem.store Mode.plain a v k).events P w #[]= #[⟨.cell a,true,false⟩]++k.events P (w.setCell a v) #[]:=by
   rw [← Sem.events_acc];cases v <;> first | (simp [BJ] at ar;done) | (simp only [Sem.events,Sem.runT,aA,aB];rfl)
  have ag:Fr s w (s.upd a.block (Gt (.cells ay az f0) a v)) (w.setCell a v):=by
   refine⟨by simp [World.setCell],fun b hb ak=>an b (fun e=>by subst e;rw [K] at ak;cases ak),fun b hb=>?_,fun _ _ h=>h,fun _ h=> .inl h,rfl,rfl,rfl⟩;simp only [St.upd] at hb;split at hb
   ·rename_i e;subst e;exact .inl (by rw [K];simp)
   ·exact .inl hb
  rw [U,W];obtain⟨s',aa,Z,ab,ae⟩:=O h ao;refine⟨s',aa,ag.trans Z,fun e he=>?_,ae⟩;rcases Array.mem_append.1 he with he | he
  ·simp at he;subst he;exact⟨rfl,Nat.lt_of_lt_of_le av (ag.trans Z).size,.inl (by rw [K];simp)⟩
  ·exact(ab e he).mono ag (Nat.le_refl _)
 | new o k O=>
  intro s w Q X h f;have aC:s.E w.heap.size=none:=by
   cases ah:s.E w.heap.size with
   | none=>rfl
   | some x=>have:=f.e _ _ ah;simp at this
  have aH:s.H w.heap.size=none:=by
   cases ah:s.H w.heap.size with
   | none=>rfl
   | some x=>have:=f.h _ _ ah;simp at this
  have U:(Sem.new o k).run P w=(k w.heap.size).run P {w with heap:=w.heap.push o}:=by simp [Sem.run]
  have W:(Sem.new o k).events P w #[]=(k w.heap.size).events P {w with heap:=w.heap.push o} #[]:=by simp only [Sem.events,Sem.runT]
  rw [U,W];have ao:Fits (s.upd w.heap.size o) {w with heap:=w.heap.push o}:=JY f aC (by simp) (fun c ai x aj=>by
   have:c<w.heap.size:=by
    rcases Nat.lt_or_ge c w.heap.size with ap | ap
    ·exact ap
    ·simp [Array.getElem?_eq_none ap] at aj
   simp [Array.getElem?_push,Nat.ne_of_lt this,aj])
  have ag:Fr s w (s.upd w.heap.size o) {w with heap:=w.heap.push o}:=by
   refine⟨by simp,fun b hb ak=>by simp [Array.getElem?_push,Nat.ne_of_lt hb],fun b hb=>?_,fun _ _ h=>h,fun _ h=> .inl h,rfl,rfl,rfl⟩;simp only [St.upd] at hb;split at hb
   ·rename_i e;subst e;exact .inr (Nat.le_refl _)
   ·exact .inl hb
  obtain⟨s',aa,Z,ab,ae⟩:=O _ (h.2 _ aC aH) ao;exact⟨s',aa,ag.trans Z,fun e he=>(ab e he).mono ag (Nat.le_refl _),ae⟩
 | shape r k O=>
  intro s w Q X h f;obtain⟨o,K,h⟩:=h;have aq:=OR (f.get K);have U:(Sem.shape r k).run P w=(k (shapeOf o)).run P w:=by simp [Sem.run,aq]
  have W:(Sem.shape r k).events P w #[]=(k (shapeOf o)).events P w #[]:=by simp only [Sem.events,Sem.runT,aq]
  rw [U,W];exact O _ h f
 | freeze a n k O=>intro s w Q X h f;exact h.elim
 | frozen a k O=>
  intro s w Q X h f;obtain⟨o,K,h⟩:=h;have aq:=Lp (a:=a) (f.get K);have U:(Sem.frozen a k).run P w=(k (frozenAt o a)).run P w:=by simp [Sem.run,aq]
  have W:(Sem.frozen a k).events P w #[]=(k (frozenAt o a)).events P w #[]:=by simp only [Sem.events,Sem.runT,aq]
  rw [U,W];exact O _ h f
 | getObj r k O=>
  intro s w Q X h f;obtain⟨o,K,aw,h⟩:=h;have hw:=f.get K;have U:(Sem.getObj r k).run P w=(k o).run P w:=by cases o <;> simp [FT] at aw <;> simp [Sem.run,hw]
  have W:(Sem.getObj r k).events P w #[]= #[⟨.obj r,false,false⟩]++(k o).events P w #[]:=by
   rw [← Sem.events_acc];cases o <;> simp [FT] at aw <;> (simp only [Sem.events,Sem.runT,hw,Obj.isChan];rfl)
  rw [U,W];obtain⟨s',aa,Z,ab,ae⟩:=O o h f;refine⟨s',aa,Z,fun e he=>?_,ae⟩;rcases Array.mem_append.1 he with he | he
  ·simp at he;subst he;refine⟨rfl,Nat.lt_of_lt_of_le (f.lt K) Z.size,?_⟩;by_cases am:s.H r=none
   ·refine .inr (.inr ⟨?_,rfl⟩);exact Mg K am
   ·exact .inl am
  ·exact ab e he
 | setObj r o k O=>
  intro s w Q X h f;obtain⟨⟨o₀,K,aD⟩,aw,h⟩:=h;have hw:=f.h _ _ K;have av:=f.Ot K;have ah:s.E r=none:=by
   cases ah:s.E r with
   | none=>rfl
   | some x=>have:=f.d r (by rw [ah];simp);rw [K] at this;cases this
  have U:(Sem.setObj r o k).run P w=k.run P {w with heap:=w.heap.setIfInBounds r o}:=by
   cases o₀ <;> simp [FT] at aD <;> simp [Sem.run,hw]
  have W:(Sem.setObj r o k).events P w #[]= #[⟨.obj r,true,false⟩]++k.events P {w with heap:=w.heap.setIfInBounds r o} #[]:=by
   rw [← Sem.events_acc];cases o₀ <;> simp [FT] at aD <;> cases o <;> simp [FT] at aw <;> (simp only [Sem.events,Sem.runT,hw,Obj.isChan];rfl)
  have an:∀c,c≠r→(w.heap.setIfInBounds r o)[c]? =w.heap[c]? :=fun c ai=>by simp [Ne.symm ai]
  have ao:Fits (s.upd r o) {w with heap:=w.heap.setIfInBounds r o}:=JY f ah (by simp [av]) (fun c ai x aj=>by show(w.heap.setIfInBounds r o)[c]? =_;rw [an c ai];exact aj);have ag:Fr s w (s.upd r o) {w with heap:=w.heap.setIfInBounds r o}:=by
   refine⟨by simp,fun b hb ak=>an b (fun e=>by subst e;rw [K] at ak;cases ak),fun b hb=>?_,fun _ _ h=>h,fun _ h=> .inl h,rfl,rfl,rfl⟩;simp only [St.upd] at hb;split at hb
   ·rename_i e;subst e;exact .inl (by rw [K];simp)
   ·exact .inl hb
  rw [U,W];obtain⟨s',aa,Z,ab,ae⟩:=O h ao;refine⟨s',aa,ag.trans Z,fun e he=>?_,ae⟩;rcases Array.mem_append.1 he with he | he
  ·simp at he;subst he;exact⟨rfl,Nat.lt_of_lt_of_le av (ag.trans Z).size,.inl (by rw [K];simp)⟩
  ·exact(ab e he).mono ag (Nat.le_refl _)
 | choose q k O=>
  intro s w Q X h f;simp only [lp] at h;by_cases al:q.forced
  ·rw [if_pos al] at h;have U:(Sem.choose q k).run P w=(k 0).run P w:=by simp [Sem.run,al]
   have W:(Sem.choose q k).events P w #[]=(k 0).events P w #[]:=by simp only [Sem.events,Sem.runT];rw [if_pos al]
   rw [U,W];exact O _ h f
  ·rw [if_neg al] at h;have U:(Sem.choose q k).run P w=(k (q.cut (w.tape w.drawn q))).run P {w with drawn:=w.drawn+1}:=by simp [Sem.run,al]
   have W:(Sem.choose q k).events P w #[]=(k (q.cut (w.tape w.drawn q))).events P {w with drawn:=w.drawn+1} #[]:=by simp only [Sem.events,Sem.runT];rw [if_neg al]
   rw [U,W];have ag:Fr s w s {w with drawn:=w.drawn+1}:=⟨Nat.le_refl _,fun _ _ _=>rfl,fun _ h=> .inl h,fun _ _ h=>h,fun _ h=> .inl h,rfl,rfl,rfl⟩;obtain⟨s',aa,Z,ab,ae⟩:=O _ (h.2 (w.tape w.drawn q)) (⟨f.e,f.h,f.d⟩:Fits s {w with drawn:=w.drawn+1});exact⟨s',aa,ag.trans Z,fun e he=>(ab e he).mono ag (Nat.le_refl _),ae⟩
 | sys c k O=>intro s w Q X h f;exact h.elim
 | program k O=>
  intro s w Q X h f;have U:(Sem.program k).run P w=(k P).run P w:=by simp [Sem.run]
  have W:(Sem.program k).events P w #[]=(k P).events P w #[]:=by simp only [Sem.events,Sem.runT]
  rw [U,W];exact O _ h f
 | mark m k O=>
  intro s w Q X h f;have U:(Sem.mark m k).run P w=k.run P w:=by simp [Sem.run]
  have W:(Sem.mark m k).events P w #[]= #[⟨.mark m,false,true⟩]++k.events P w #[]:=by
   rw [← Sem.events_acc];simp only [Sem.events,Sem.runT];rfl
  rw [U,W];obtain⟨hm,h⟩:=h;obtain⟨s',aa,Z,ab,ae⟩:=O h f;refine⟨s',aa,Z,fun e he=>?_,ae⟩;rcases Array.mem_append.1 he with he | he
  ·simp at he;subst he;rcases hm with⟨_,rfl⟩ | ⟨g,rfl⟩ <;> trivial
  ·exact ab e he
 | halt h=>intro s w Q X ap f;exact⟨s,f,.refl _ _,by simp [Sem.events_halt],ap⟩
theorem JE{P:Program}{fn:FuncId}{es:Array Event}(h:∀e∈es,∃f,e.loc= .mark (.extern f)):seen P fn es= #[]:=by
 rw [seen_def];have:∀(l:List Event) (q:Bool),(∀e∈l,∃f,e.loc= .mark (.extern f))→(l.foldl (seenStep fun f=>(P.funcs[f]?).any (·.norace)) (q,#[])).2= #[]:=by
  intro l
  induction l with
  | nil=>intro q _;rfl
  | cons e l K=>
   intro q h;obtain⟨f,O⟩:=h e (by simp);rw [List.foldl_cons];have:seenStep (fun f=>(P.funcs[f]?).any (·.norace)) (q,#[]) e=((P.funcs[f]?).any (·.norace),#[]):=by simp [seenStep,O]
   rw [this];exact K _ fun x U=>h x (by simp [U])
 exact this es.toList _ fun e he=>h e (Array.mem_toList_iff.1 he)
def St.quiet:St:=⟨fun _=>none,fun _=>none,true⟩
theorem JX{P:Program}{α:Type}(x:Sem α):∀{Q:α→St→Prop} {X:Halt→St→Prop},lp P x .quiet Q X→
  ∃es,(∀w,x.events P w #[]=es)∧(∀e∈es,∃f,e.loc= .mark (.extern f))∧((∃a,Q a .quiet∧(∀w,x.run P w= .ok a w))∨(∃a,X a .quiet∧(∀w,x.run P w= .halt a w))):=by
 induction x with
 | pure a=>intro Q X h;exact⟨#[],fun w=>by simp [Sem.events_pure'],by simp,.inl ⟨a,h,fun w=>rfl⟩⟩
 | load m a k K=>intro Q X h;obtain⟨_,v,aa,_⟩:=h;simp [St.cell?,St.get,St.quiet] at aa
 | store m a v k K=>intro Q X h;obtain⟨_,_,o,ab,_⟩:=h;cases ab
 | new o k K=>intro Q X h;cases h.1
 | shape r k K=>intro Q X h;obtain⟨o,O,_⟩:=h;simp [St.get,St.quiet] at O
 | freeze a n k K=>intro Q X h;exact h.elim
 | frozen a k K=>intro Q X h;obtain⟨o,O,_⟩:=h;simp [St.get,St.quiet] at O
 | getObj r k K=>intro Q X h;obtain⟨o,O,_⟩:=h;simp [St.get,St.quiet] at O
 | setObj r o k K=>intro Q X h;obtain⟨⟨o,O,_⟩,_⟩:=h;cases O
 | choose q k K=>
  intro Q X h;simp only [lp] at h;by_cases U:q.forced
  ·rw [if_pos U] at h;have W:∀w,(Sem.choose q k).run P w=(k 0).run P w:=fun w=>by simp [Sem.run,U]
   have Z:∀w,(Sem.choose q k).events P w #[]=(k 0).events P w #[]:=fun w=>by simp only [Sem.events,Sem.runT];rw [if_pos U]
   simpa only [W,Z] using K _ h
  ·rw [if_neg U] at h;cases h.1
 | sys c k K=>intro Q X h;exact h.elim
 | program k K=>
  intro Q X h;have W:∀w,(Sem.program k).run P w=(k P).run P w:=fun w=>by simp [Sem.run]
  have Z:∀w,(Sem.program k).events P w #[]=(k P).events P w #[]:=fun w=>by simp only [Sem.events,Sem.runT]
  simpa only [W,Z] using K _ h
 | mark m k K=>
  intro Q X h;obtain⟨hm,h⟩:=h;obtain⟨es,O,aa,ab⟩:=K h;have W:∀w,(Sem.mark m k).run P w=k.run P w:=fun w=>by simp [Sem.run]
  have Z:∀w,(Sem.mark m k).events P w #[]= #[⟨.mark m,false,true⟩]++k.events P w #[]:=fun w=>by rw [← Sem.events_acc];simp only [Sem.events,Sem.runT];rfl
  refine⟨#[⟨.mark m,false,true⟩]++es,fun w=>by rw [Z,O],fun e he=>?_,by simpa only [W] using ab⟩;rcases Array.mem_append.1 he with he | he
  ·simp at he;subst he;rcases hm with⟨U,_⟩ | hm
   ·cases U
   ·obtain⟨f,rfl⟩:=hm;exact⟨f,rfl⟩
  ·exact aa e he
 | halt h=>intro Q X ae;exact⟨#[],fun w=>by simp [Sem.events_halt],by simp,.inr ⟨h,ae,fun w=>rfl⟩⟩
end Pal
namespace Pal
open Go Go.Conc
def Gp(P:Program)(main:Bool)(g:Goroutine)(s:St)(K:Goroutine→St→Prop):Prop:=
 g.status= .running∧(∀w,Fits s w→
  ∃g' s' w' es,stepG P main g w= .go g' w' es∧K g' s'∧Fits s' w'∧Fr s w s' w'∧(∀e∈es,Ev s w w' e))∧
  (s= .quiet→∃g',(∀w,stepG P main g w= .go g' w #[])∧K g' .quiet)
theorem Gp.mono{P:Program}{main:Bool}{g:Goroutine}{s:St}{K W:Goroutine→St→Prop}(h:Gp P main g s K)(Z:∀g s,K g s→W g s):Gp P main g s W:=
 ⟨h.1,fun w f=>let ⟨g',s',w',es,O,U,aa⟩:=h.2.1 w f;⟨g',s',w',es,O,Z _ _ U,aa⟩,fun e=>let ⟨g',O,U⟩:=h.2.2 e;⟨g',O,Z _ _ U⟩⟩
structure B4 (s s₀:St):Prop where
 ext:∀b o,s.E b=some o→s₀.E b=some o
 own:∀b o,s₀.H b=some o→s.H b=some o
 CW:∀b o,s₀.E b=some o→s.E b=some o∨(s.H b=some o∧s₀.H b=none)
 q:s₀.q=s.q
theorem B4.refl(s:St):B4 s s:=⟨fun _ _ h=>h,fun _ _ h=>h,fun _ _ h=> .inl h,rfl⟩
theorem B4.fits{s s₀:St}(g:B4 s s₀){w:World}(f:Fits s w):Fits s₀ w where
 e b o h:=by
  rcases g.CW b o h with x | x
  ·exact f.e _ _ x
  ·exact f.h _ _ x.1
 h b o h:=f.h _ _ (g.own _ _ h)
 d b h:=by
  cases K:s₀.E b with
  | none=>exact absurd K h
  | some o=>
   rcases g.CW b o K with x | x
   ·cases O:s₀.H b with
    | none=>rfl
    | some y=>have:=g.own _ _ O;rw [f.d b (by rw [x];simp)] at this;cases this
   ·exact x.2
theorem EW{α:Type}{x:Option α}(h:x≠none):∃a,x=some a:=by cases x <;> simp at h;exact⟨_,rfl⟩
theorem B4.fr{s s₀ s':St}{w w':World}(g:B4 s s₀)(f:Fr s₀ w s' w'):Fr s w s' w' where
 size:=f.size
 keep b hb O:=f.keep b hb (by
  cases h:s₀.H b with
  | none=>rfl
  | some o=>rw [g.own _ _ h] at O;cases O)
 own b hb:=(f.own b hb).imp (fun h=>by obtain⟨o,K⟩:=EW h;rw [g.own _ _ K];simp) id
 ext b o h:=f.ext _ _ (g.ext _ _ h)
 CW b hb:=by
  rcases f.CW b hb with h | h | h
  ·obtain⟨o,K⟩:=EW h;rcases g.CW _ _ K with x | x
   ·exact .inl (by rw [x];simp)
   ·exact .inr (.inl (by rw [x.1];simp))
  ·obtain⟨o,K⟩:=EW h;exact .inr (.inl (by rw [g.own _ _ K];simp))
  ·exact .inr (.inr h)
 tape:=f.tape
 os:=f.os
 output:=f.output
theorem B4.D2{s s₀:St}{w w':World}{b:Nat}{wr:Bool}(g:B4 s s₀)(t:D2 s₀ w w' b wr):D2 s w w' b wr:=by
 refine⟨t.1,?_⟩;rcases t.2 with h | h | ⟨h,hw⟩
 ·obtain⟨o,K⟩:=EW h;exact .inl (by rw [g.own _ _ K];simp)
 ·exact .inr (.inl h)
 ·obtain⟨o,K⟩:=EW h;rcases g.CW _ _ K with x | x
  ·exact .inr (.inr ⟨by rw [x];simp,hw⟩)
  ·exact .inl (by rw [x.1];simp)
theorem B4.ev{s s₀:St}{w w':World}{e:Event}(g:B4 s s₀)(t:Ev s₀ w w' e):Ev s w w' e:=by
 unfold Ev at t ⊢;split <;> rename_i he <;> simp only [he] at t
 ·exact⟨t.1,g.D2 t.2⟩
 ·exact⟨t.1,g.D2 t.2⟩
 ·trivial
 ·trivial
theorem B4.quiet{s₀:St}(g:B4 .quiet s₀):s₀= .quiet:=by
 obtain⟨E,H,q⟩:=s₀;have K:E=fun _=>none:=by
  funext b;cases h:E b with
  | none=>rfl
  | some o=>rcases g.CW b o h with x | ⟨x,_⟩ <;> cases x
 have O:H=fun _=>none:=by
  funext b;cases h:H b with
  | none=>rfl
  | some o=>cases g.own b o h
 have U:q=true:=g.q;subst K O U;rfl
theorem B4.step{P:Program}{main:Bool}{g:Goroutine}{s s₀:St}{K:Goroutine→St→Prop}(h:B4 s s₀)(k:Gp P main g s₀ K):Gp P main g s K:=
 ⟨k.1,fun w f=>let ⟨g',s',w',es,O,U,W,Z,aa⟩:=k.2.1 w (h.fits f);⟨g',s',w',es,O,U,W,h.fr Z,fun e he=>h.ev (aa e he)⟩,fun e=>by subst e;exact k.2.2 h.quiet⟩
inductive Rk:Type where
 | leaf:Rk
 | node (f:World→Rk):Rk
def Rk.sub(a b:Rk):Prop:=∃f w,b= .node f∧a=f w
theorem Rk.wf:WellFounded Rk.sub:=⟨fun r=>by
 induction r with
 | leaf=>exact⟨_,fun a ⟨f,w,h,_⟩=>by cases h⟩
 | node f K=>exact⟨_,fun a ⟨g,w,h,e⟩=>by cases h;subst e;exact K w⟩⟩
def Jr(P:Program)(main:Bool)(Q:Goroutine→St→Prop):Rk→Goroutine→St→Prop
 | .leaf,g,s=>Q g s
 | .node f,g,s=>Q g s∨(g.status= .running∧∀w,Fits s w→
  ∃g' s' w' es,stepG P main g w= .go g' w' es∧Jr P main Q (f w) g' s'∧Fits s' w'∧Fr s w s' w'∧(∀e∈es,Ev s w w' e)∧(s= .quiet→s'= .quiet∧w'=w∧es= #[]))
structure Judge (P:Program) where
 main:Bool
 ok:(Goroutine→St→Prop)→Goroutine→St→Prop
 stop:∀{Q g s},Q g s→ok Q g s
 step:∀{Q g s},Gp P main g s (ok Q)→ok Q g s
 trans:∀{Q R g s},ok Q g s→(∀g' s',Q g' s'→ok R g' s')→ok R g s
 ghost:∀{Q g s s₀},B4 s s₀→ok Q g s₀→ok Q g s
def JQ(Q:Goroutine→St→Prop)(g:Goroutine)(s:St):Prop:=∃s₀,B4 s s₀∧Q g s₀
theorem B4.trans{a b c:St}(h:B4 a b)(k:B4 b c):B4 a c where
 ext x o y:=k.ext _ _ (h.ext _ _ y)
 own x o y:=h.own _ _ (k.own _ _ y)
 CW x o y:=by
  rcases k.CW x o y with z | z
  ·rcases h.CW x o z with u | u
   ·exact .inl u
   ·refine .inr ⟨u.1,?_⟩;cases K:c.H x with
    | none=>rfl
    | some v=>have:=k.own _ _ K;rw [u.2] at this;cases this
  ·exact .inr ⟨h.own _ _ z.1,z.2⟩
 q:=k.q.trans h.q
def A4(P:Program)(main:Bool):Judge P where
 main:=main
 ok Q g s:=∃r,Jr P main (JQ Q) r g s
 stop h:=⟨.leaf,_,.refl _,h⟩
 step {Q g s} h:=by
  obtain⟨U,h,hu⟩:=h;have ae:∀w,∃r:Rk,Fits s w→∃g' s' w' es,stepG P main g w= .go g' w' es∧Jr P main (JQ Q) r g' s'∧Fits s' w'∧Fr s w s' w'∧(∀e∈es,Ev s w w' e)∧(s= .quiet→s'= .quiet∧w'=w∧es= #[]):=by
   intro w;by_cases f:Fits s w
   ·by_cases e:s= .quiet
    ·obtain⟨g',K,r,O⟩:=hu e;exact⟨r,fun _=>⟨g',.quiet,w,#[],K w,O,e▸f,e▸ .refl _ _,by simp,fun _=>⟨rfl,rfl,rfl⟩⟩⟩
    ·obtain⟨g',s',w',es,K,⟨r,O⟩,aa,ag,ah⟩:=h w f;exact⟨r,fun _=>⟨g',s',w',es,K,O,aa,ag,ah,fun x=>absurd x e⟩⟩
   ·exact⟨.leaf,fun x=>absurd x f⟩
  exact⟨.node fun w=>Classical.choose (ae w),.inr ⟨U,fun w f=>Classical.choose_spec (ae w) f⟩⟩
 trans {Q R g s} h k:=by
  obtain⟨r,h⟩:=h;have aj:∀(r:Rk) {g:Goroutine} {s s₀:St},B4 s s₀→Jr P main (JQ R) r g s₀→Jr P main (JQ R) r g s:=by
   intro r g s s₀ W Z;cases r with
   | leaf=>obtain⟨ab,K,O⟩:=Z;exact⟨ab,W.trans K,O⟩
   | node f=>
    rcases Z with⟨ab,K,O⟩ | ⟨U,Z⟩
    ·exact .inl ⟨ab,W.trans K,O⟩
    ·exact .inr ⟨U,fun w f=>let ⟨g',s',w',es,K,O,aa,ag,ah,ai⟩:=Z w (W.fits f);⟨g',s',w',es,K,O,aa,W.fr ag,fun e he=>W.ev (ah e he),fun e=>ai (by subst e;exact W.quiet)⟩⟩
  induction r generalizing g s with
  | leaf=>
   obtain⟨s₀,K,O⟩:=h;obtain⟨r,U⟩:=k _ _ O;exact⟨r,aj r K U⟩
  | node f al=>
   rcases h with⟨s₀,K,O⟩ | ⟨U,h⟩
   ·obtain⟨r,U⟩:=k _ _ O;exact⟨r,aj r K U⟩
   ·have ae:∀w,∃r:Rk,Fits s w→∃g' s' w' es,stepG P main g w= .go g' w' es∧Jr P main (JQ R) r g' s'∧Fits s' w'∧Fr s w s' w'∧(∀e∈es,Ev s w w' e)∧(s= .quiet→s'= .quiet∧w'=w∧es= #[]):=by
     intro w;by_cases ak:Fits s w
     ·obtain⟨g',s',w',es,K,O,aa⟩:=h w ak;obtain⟨r,U⟩:=al w O;exact⟨r,fun _=>⟨g',s',w',es,K,U,aa⟩⟩
     ·exact⟨.leaf,fun x=>absurd x ak⟩
    exact⟨.node fun w=>Classical.choose (ae w),.inr ⟨U,fun w f=>Classical.choose_spec (ae w) f⟩⟩
 ghost {Q g s s₀} W h:=by
  obtain⟨r,Z⟩:=h;refine⟨r,?_⟩;cases r with
  | leaf=>obtain⟨ab,K,O⟩:=Z;exact⟨ab,W.trans K,O⟩
  | node f=>
   rcases Z with⟨ab,K,O⟩ | ⟨U,Z⟩
   ·exact .inl ⟨ab,W.trans K,O⟩
   ·exact .inr ⟨U,fun w f=>let ⟨g',s',w',es,K,O,aa,ag,ah,ai⟩:=Z w (W.fits f);⟨g',s',w',es,K,O,aa,W.fr ag,fun e he=>W.ev (ah e he),fun e=>ai (by subst e;exact W.quiet)⟩⟩
def Lv(P:Program)(Q:Goroutine→St→Prop):Nat→Goroutine→Prop
 | 0,g=>Q g .quiet
 | n+1,g=>Q g .quiet∨(g.status= .running∧∃g',(∀w,stepG P false g w= .go g' w #[])∧Lv P Q n g')
def Es(P:Program):Judge P where
 main:=false
 ok Q g s:=s= .quiet→∃n,Lv P Q n g
 stop h e:=⟨0,by subst e;exact h⟩
 step {Q g s} h e:=by
  obtain⟨g',K,O⟩:=h.2.2 e;obtain⟨n,U⟩:=O rfl;exact⟨n+1,.inr ⟨h.1,g',K,U⟩⟩
 trans {Q R g s} h k e:=by
  obtain⟨n,U⟩:=h e;have:∀n g,Lv P Q n g→∃m,Lv P R m g:=by
   intro n
   induction n with
   | zero=>intro g h;exact k _ _ h rfl
   | succ n W=>
    intro g h;rcases h with h | ⟨Z,g',K,O⟩
    ·exact k _ _ h rfl
    ·obtain⟨m,hm⟩:=W g' O;exact⟨m+1,.inr ⟨Z,g',K,hm⟩⟩
  exact this n g U
 ghost {Q g s s₀} aa h e:=by subst e;exact h aa.quiet
end Pal
namespace Pal
open Go Go.Conc
def fr(b:Frame)(T:Array Value)(ds:List Deferred)(todo:List Item):Frame:={b with tmps:=T,todo:=todo,defers:=ds,mode:= .run}
def CR(b:Frame)(T:Array Value)(ds:List Deferred)(todo:List Item):Frame:={b with tmps:=T,todo:=todo,defers:=ds,mode:= .returning}
def Bf(T:Array Value):Operand→Value
 | .tmp t=>T.getD t undef
 | .const v=>v
 | .global g=> .pointer (some ⟨g,0,none⟩)
 | .func f=> .func (.func f) #[] #[]
abbrev Env:=List (Nat×Value)
def look:Env→Nat→Option Value
 | [],_=>none
 | (t,v)::L,u=>if t=u then some v else look L u
def ev(L:Env):Operand→Option Value
 | .tmp t=>look L t
 | .const v=>some v
 | .global g=>some (.pointer (some ⟨g,0,none⟩))
 | .func f=>some (.func (.func f) #[] #[])
structure Has (n:Nat) (L:Env) (T:Array Value):Prop where
 size:T.size=n
 at_:∀t v,look L t=some v→T.getD t undef=v
theorem Has.ev{n:Nat}{L:Env}{T:Array Value}(h:Has n L T){x:Operand}{v:Value}(e:ev L x=some v):Bf T x=v:=by
 cases x with
 | tmp t=>exact h.at_ t v e
 | const u=>cases e;rfl
 | global g=>cases e;rfl
 | func f=>cases e;rfl
def BQ(T:Array Value):Option Tmp→Value→Array Value
 | some d,v=>T.setIfInBounds d v
 | none,_=>T
def AE(L:Env):Option Tmp→Value→Env
 | some d,v=>(d,v)::L
 | none,_=>L
def Bb(n:Nat):Option Tmp→Bool
 | some d=>d<n
 | none=>true
theorem PV(T:Array Value)(d:Nat)(v:Value)(h:d<T.size)(t:Nat):(T.setIfInBounds d v).getD t undef=if d=t then v else T.getD t undef:=by
 by_cases e:d=t
 ·subst e;simp [Array.getD_eq_getD_getElem?,h]
 ·simp [Array.getD_eq_getD_getElem?,e]
theorem Has.put{n:Nat}{L:Env}{T:Array Value}(h:Has n L T){d:Option Tmp}(K:Bb n d=true)(v:Value):Has n (AE L d v) (BQ T d v):=by
 cases d with
 | none=>exact h
 | some d=>
  have O:d<T.size:=by rw [h.size];simpa [Bb] using K
  refine⟨by simp [BQ,h.size],fun t u hu=>?_⟩;simp only [BQ,PV T d v O];simp only [AE,look] at hu;split at hu
  ·rename_i e;rw [if_pos e];exact Option.some.inj hu
  ·rename_i e;rw [if_neg e];exact h.at_ t u hu
def Sub:Env→Env→Prop
 | [],_=>True
 | (t,v)::L',L=>look L t=some v∧Sub L' L
theorem Sub.look{L:Env}:∀{L':Env},Sub L' L→∀t v,look L' t=some v→Pal.look L t=some v
 | [],_,t,v,e=>by simp [Pal.look] at e
 | (u,w)::L',h,t,v,e=>by
  simp only [Pal.look] at e
  split at e
  ·rename_i K;subst K;cases e;exact h.1
  ·exact Sub.look h.2 t v e
theorem Has.sub{n:Nat}{L L':Env}{T:Array Value}(h:Has n L T)(s:Sub L' L):Has n L' T:=⟨h.size,fun t v e=>h.at_ t v (s.look t v e)⟩
section
variable {P:Program}(J:Judge P)(Q:Goroutine→St→Prop)
def JL(b:Frame)(n:Nat)(L:Env)(ds:List Deferred)(todo:List Item)(cs:List Frame)(s:St):Prop:=
 ∀T,Has n L T→J.ok Q (G (fr b T ds todo) cs) s
end
section
variable {P:Program}{J:Judge P}{Q:Goroutine→St→Prop}{b:Frame}{n:Nat}{L L':Env}{ds:List Deferred}{k:List Item}{cs:List Frame}{s s':St}
theorem Judge.Cf{g g':Goroutine}(K:g.status= .running)(h:∀w,stepG P J.main g w= .go g' w)(k:J.ok Q g' s):J.ok Q g s:=
 J.step ⟨K,fun w f=>⟨g',s,w,#[],h w,k,f,.refl _ _,by simp⟩,fun e=>⟨g',h,e▸k⟩⟩
theorem JL.Cc(h:Sub L' L)(k':JL J Q b n L' ds k cs s):JL J Q b n L ds k cs s:=fun T K=>k' T (K.sub h)
theorem JL.ghost(h:B4 s s')(k':JL J Q b n L ds k cs s'):JL J Q b n L ds k cs s:=fun T K=>J.ghost h (k' T K)
theorem JL.skip(h:JL J Q b n L ds k cs s):JL J Q b n L ds (.code .skip::k) cs s:=fun T K=>Judge.Cf rfl (fun w=>by simp [G,stepG,stepG.exec,fr]) (h T K)
theorem JL.label{l:Nat}(h:JL J Q b n L ds k cs s):JL J Q b n L ds (.code (.label l)::k) cs s:=fun T K=>Judge.Cf rfl (fun w=>by simp [G,stepG,stepG.exec,fr]) (h T K)
theorem JL.outBlock{i:Nat}(h:JL J Q b n L ds k cs s):JL J Q b n L ds (.inBlock i::k) cs s:=fun T K=>Judge.Cf rfl (fun w=>by simp [G,stepG,stepG.exec,fr]) (h T K)
theorem JL.P9{c:Code}(h:JL J Q b n L ds k cs s):JL J Q b n L ds (.inScope c::k) cs s:=fun T K=>Judge.Cf rfl (fun w=>by simp [G,stepG,stepG.exec,fr]) (h T K)
theorem JL.seq{x y:Code}(h:JL J Q b n L ds (.code x:: .code y::k) cs s):JL J Q b n L ds (.code (.seq x y)::k) cs s:=fun T K=>Judge.Cf rfl (fun w=>by simp [G,stepG,stepG.exec,fr]) (h T K)
theorem JL.block{i:Nat}{c:Code}(h:JL J Q b n L ds (.code c:: .inBlock i::k) cs s):JL J Q b n L ds (.code (.block i c)::k) cs s:=fun T K=>Judge.Cf rfl (fun w=>by simp [G,stepG,stepG.exec,fr]) (h T K)
theorem JL.scope{c:Code}(h:JL J Q b n L ds (.code c:: .inScope c::k) cs s):JL J Q b n L ds (.code (.scope c)::k) cs s:=fun T K=>Judge.Cf rfl (fun w=>by simp [G,stepG,stepG.exec,fr]) (h T K)
theorem JL.G4{c:Code}(h:JL J Q b n L ds (.code c:: .inLoop c::k) cs s):JL J Q b n L ds (.code (.loop c)::k) cs s:=fun T K=>Judge.Cf rfl (fun w=>by simp [G,stepG,stepG.exec,fr]) (h T K)
theorem JL.again{c:Code}(h:JL J Q b n L ds (.code c:: .inLoop c::k) cs s):JL J Q b n L ds (.inLoop c::k) cs s:=fun T K=>Judge.Cf rfl (fun w=>by simp [G,stepG,stepG.exec,fr]) (h T K)
theorem JL.exit{i:Nat}{k':List Item}(K:exitTo i k=some k')(h:JL J Q b n L ds k' cs s):JL J Q b n L ds (.code (.exit i)::k) cs s:=fun T O=>Judge.Cf rfl (fun w=>by simp [G,stepG,stepG.exec,fr,K]) (h T O)
theorem JL.goto{l:Nat}{k':List Item}(K:gotoIn l k=some k')(h:JL J Q b n L ds k' cs s):JL J Q b n L ds (.code (.goto l)::k) cs s:=fun T O=>Judge.Cf rfl (fun w=>by simp [G,stepG,stepG.exec,fr,K]) (h T O)
theorem ME(T:Array Value)(todo:List Item)(x:Operand):(fr b T ds todo).eval x=Bf T x:=by cases x <;> rfl
theorem MA(T:Array Value)(todo:List Item):(fr b T ds todo).eval=Bf T:=funext (ME T todo)
theorem JL.cond{c:Operand}{x y:Code}{t:Bool}(U:ev L c=some (.bool t))(h:JL J Q b n L ds (.code (if t then x else y)::k) cs s):JL J Q b n L ds (.code (.cond c x y)::k) cs s:=fun T O=>
 Judge.Cf rfl (fun w=>by
  have K:=ME (b:=b) (ds:=ds) T (.code (.cond c x y)::k) c
  rw [O.ev U] at K
  simp only [fr] at K
  simp [G,stepG,stepG.exec,fr,K]) (h T O)
theorem JL.R3{c:Operand}{x y:Code}(K:ev L c=some (.bool true))(h:JL J Q b n L ds (.code x::k) cs s):JL J Q b n L ds (.code (.cond c x y)::k) cs s:=JL.cond K h
theorem JL.Sf{c:Operand}{x y:Code}(K:ev L c=some (.bool false))(h:JL J Q b n L ds (.code y::k) cs s):JL J Q b n L ds (.code (.cond c x y)::k) cs s:=JL.cond K h
theorem JL.split{c:Operand}{x y:Code}{t:Bool}(K:ev L c=some (.bool t))(O:t=true→JL J Q b n L ds (.code x::k) cs s)(U:t=false→JL J Q b n L ds (.code y::k) cs s):JL J Q b n L ds (.code (.cond c x y)::k) cs s:=by
 cases t
 ·exact JL.cond K (U rfl)
 ·exact JL.cond K (O rfl)
theorem JL.ifs{c:Operand}{x y:Code}{p:Prop} [Decidable p] (K:ev L c=some (.bool (decide p)))(O:p→JL J Q b n L ds (.code x::k) cs s)(U:¬p→JL J Q b n L ds (.code y::k) cs s):JL J Q b n L ds (.code (.cond c x y)::k) cs s:=
 JL.split K (fun h=>O (of_decide_eq_true h)) (fun h=>U (of_decide_eq_false h))
theorem JL.region{id:Nat}{ops:Array Oper}(h:JL J Q b n L ds (.inRegion ops (List.range ops.size)::k) cs s):JL J Q b n L ds (.code (.region id ops false)::k) cs s:=fun T K=>Judge.Cf rfl (fun w=>by simp [G,stepG,stepG.exec,fr]) (h T K)
theorem JL.done{ops:Array Oper}(h:JL J Q b n L ds k cs s):JL J Q b n L ds (.inRegion ops []::k) cs s:=fun T K=>Judge.Cf rfl (fun w=>by simp [G,stepG,stepG.exec,fr]) (h T K)
theorem JL.draw{id:Nat}{ops:Array Oper}(K:s.q=false)(hm:P.follows .mixedOrders=true)(h:∀t,JL J Q b n L ds (.inRegion ops (Region.linearise .any ops t)::k) cs s):JL J Q b n L ds (.code (.region id ops true)::k) cs s:=fun T O=>by
 refine J.step ⟨rfl,fun w f=>⟨_,s,{w with drawn:=w.drawn+1},#[],?_,h (w.tape w.drawn (.order b.fn id)) T O,⟨f.e,f.h,f.d⟩,⟨Nat.le_refl _,fun _ _ _=>rfl,fun _ h=> .inl h,fun _ _ h=>h,fun _ h=> .inl h,rfl,rfl,rfl⟩,by simp⟩,fun e=>by subst e;cases K⟩
 simp [G,stepG,stepG.exec,fr,choose,Sem.run,Question.forced,Question.cut,Region.schedule,hm]
theorem D1(T:Array Value)(ops:Array Oper)(i:Nat)(rest:List Nat)(v:Value)(o:Oper)(K:ops[i]? =some o):
  (fr b T ds (.inRegion ops (i::rest)::k)).finish v=fr b (BQ T o.dst v) ds (.inRegion ops rest::k):=by
 cases O:o.dst <;> simp [Frame.finish,fr,K,O,BQ]
theorem stepG_op{main:Bool}{T:Array Value}{ops:Array Oper}{i:Nat}{rest:List Nat}{o:Oper}{w:World}(K:ops[i]? =some o)(hw:Region.wanted o (yielded ops T)=true):
  stepG P main (G (fr b T ds (.inRegion ops (i::rest)::k)) cs) w=
   match b.roundOf,o.op with
   | some l,.defer c=>stepG.apply P true (fr b T ds (.inRegion ops (i::rest)::k)) cs none (do Instr.deferInRound l (← resolve (Bf T) c o.type);pure .skip) w
   | _,_=>stepG.apply P true (fr b T ds (.inRegion ops (i::rest)::k)) cs none (execOp (Bf T) o) w:=by
 have he:=MA (b:=b) (ds:=ds) T (.inRegion ops (i::rest)::k);simp only [fr] at he;simp only [G,stepG,stepG.exec,fr,K,Option.map_some,Option.getD_some,hw,if_true,stepG.oper,Frame.oper?,he]
 rfl
theorem Dl(T:Array Value)(todo:List Item):(fr b T ds todo).fn=b.fn:=rfl
theorem EG(T:Array Value)(todo:List Item):(fr b T ds todo).todo=todo:=rfl
theorem Tz(T:Array Value)(todo:List Item)(d:Deferred):{(fr b T ds todo) with defers:=d::ds}=fr b T (d::ds) todo:=rfl
def upon(J:Judge P)(Q:Goroutine→St→Prop)(b:Frame)(T:Array Value)(ds:List Deferred)(ops:Array Oper)(i:Nat)(rest:List Nat)(k:List Item)(cs:List Frame)(dst:Option Tmp):Next→St→Prop
 | .value v,s=>J.ok Q (G (fr b (BQ T dst v) ds (.inRegion ops rest::k)) cs) s
 | .skip,s=>J.ok Q (G (fr b (BQ T dst undef) ds (.inRegion ops rest::k)) cs) s
 | .defer d,s=>J.ok Q (G (fr b (BQ T dst undef) (d::ds) (.inRegion ops rest::k)) cs) s
 | .enter f args,s=>J.ok Q (G (Frame.enter P f args .normal) (fr b T ds (.inRegion ops (i::rest)::k)::cs)) s
 | .round l f tmps assign body,s=>J.ok Q (G (Frame.round l f tmps assign body .normal) (fr b T ds (.inRegion ops (i::rest)::k)::cs)) s
 | _,_=>False
def HT(J:Judge P)(Q:Goroutine→St→Prop)(b:Frame)(T:Array Value)(ds:List Deferred)(ops:Array Oper)(i:Nat)(rest:List Nat)(k:List Item)(cs:List Frame):Halt→St→Prop
 | .panic v,s=>J.ok Q (G ((fr b T ds (.inRegion ops (i::rest)::k)).raise [{v,recovered:=false}]) cs) s
 | _,_=>False
theorem Ke{s:St}{w w':World}{fn:FuncId}{es:Array Event}(h:∀e∈es,Ev s w w' e):∀e∈seen P fn es,Ev s w w' e:=fun e he=>h e (mem_seen he)
theorem Judge.oper{T:Array Value}{ops:Array Oper}{i:Nat}{rest:List Nat}{o:Oper}(ae:ops[i]? =some o)(hw:Region.wanted o (yielded ops T)=true)(al:b.kind≠ .early)
  (ag:b.roundOf=none∨∀c,o.op≠ .defer c)
  (h:lp P (execOp (Bf T) o) s (upon J Q b T ds ops i rest k cs o.dst) (HT J Q b T ds ops i rest k cs)):
  J.ok Q (G (fr b T ds (.inRegion ops (i::rest)::k)) cs) s:=by
 have U:((fr b T ds (.inRegion ops (i::rest)::k)).kind==CallKind.early)=false:=by simpa [fr] using al
 have aj:∀w,stepG P J.main (G (fr b T ds (.inRegion ops (i::rest)::k)) cs) w=stepG.apply P true (fr b T ds (.inRegion ops (i::rest)::k)) cs none (execOp (Bf T) o) w:=by
  intro w;rw [stepG_op ae hw];split
  ·rename_i l c ak am;rcases ag with ag | ag
   ·rw [ag] at ak;cases ak
   ·exact absurd am (ag c)
  ·rfl
 refine J.step ⟨rfl,fun w f=>?_,fun e=>?_⟩
 rotate_left
 ·subst e;simp only [aj];have ah:=fun v=>D1 (b:=b) (ds:=ds) (k:=k) T ops i rest v o ae;obtain⟨es,he,W,h⟩:=JX _ h;have ab:seen P b.fn es= #[]:=JE W;rcases h with⟨nx,K,O⟩ | ⟨x,K,O⟩
  ·cases nx with
   | value v=>exact⟨_,fun w=>by simp [stepG.apply,O,U,GStep.after,G,ah,Dl,he,ab],K⟩
   | skip=>exact⟨_,fun w=>by simp [stepG.apply,O,U,GStep.after,G,ah,Dl,he,ab],K⟩
   | enter g args=>exact⟨_,fun w=>by simp [stepG.apply,O,U,GStep.after,G,Dl,EG,he,ab],K⟩
   | round l g an as ao=>exact⟨_,fun w=>by simp [stepG.apply,O,U,GStep.after,G,Dl,EG,he,ab],K⟩
   | defer d=>
    have ai:=D1 (b:=b) (ds:=d::ds) (k:=k) T ops i rest undef o ae;exact⟨_,fun w=>by rw [← ai];simp [stepG.apply,O,U,GStep.after,G,Dl,EG,he,ab];rfl,K⟩
   | _=>exact K.elim
  ·cases x with
   | panic v=>exact⟨_,fun w=>by simp [stepG.apply,O,U,GStep.after,G,Dl,EG,he,ab],K⟩
   | _=>exact K.elim
 obtain⟨s',Z,aa,ap,K⟩:=IA _ h f;rw [aj];have W:=Ke (P:=P) (fn:=b.fn) ap;have ah:=fun v=>D1 (b:=b) (ds:=ds) (k:=k) T ops i rest v o ae;cases O:(execOp (Bf T) o).run P w with
 | ok nx w'=>
  rw [O] at Z aa K W;simp only [GA] at Z aa W;cases nx with
  | value v=>exact⟨_,s',w',seen P b.fn ((execOp (Bf T) o).events P w #[])++ #[],by simp [stepG.apply,O,U,GStep.after,G,ah,Dl],K,Z,aa,by simpa using W⟩
  | skip=>exact⟨_,s',w',seen P b.fn ((execOp (Bf T) o).events P w #[])++ #[],by simp [stepG.apply,O,U,GStep.after,G,ah,Dl],K,Z,aa,by simpa using W⟩
  | enter g args=>exact⟨_,s',w',seen P b.fn ((execOp (Bf T) o).events P w #[])++ #[],by simp [stepG.apply,O,U,GStep.after,G,Dl,EG],K,Z,aa,by simpa using W⟩
  | round l g an as ao=>exact⟨_,s',w',seen P b.fn ((execOp (Bf T) o).events P w #[])++ #[],by simp [stepG.apply,O,U,GStep.after,G,Dl,EG],K,Z,aa,by simpa using W⟩
  | defer d=>
   have ai:=D1 (b:=b) (ds:=d::ds) (k:=k) T ops i rest undef o ae;exact⟨_,s',w',seen P b.fn ((execOp (Bf T) o).events P w #[])++ #[],by
    rw [← ai];simp [stepG.apply,O,U,GStep.after,G,Dl,EG];rfl,K,Z,aa,by simpa using W⟩
  | _=>exact K.elim
 | halt x w'=>
  rw [O] at Z aa K W;simp only [GA] at Z aa W;cases x with
  | panic v=>exact⟨_,s',w',seen P b.fn ((execOp (Bf T) o).events P w #[])++ #[],by simp [stepG.apply,O,U,GStep.after,G,Dl,EG],K,Z,aa,by simpa using W⟩
  | _=>exact K.elim
theorem Judge.unwanted{T:Array Value}{ops:Array Oper}{i:Nat}{rest:List Nat}{o:Oper}(K:ops[i]? =some o)(hw:Region.wanted o (yielded ops T)=false)
  (h:J.ok Q (G (fr b (BQ T o.dst undef) ds (.inRegion ops rest::k)) cs) s):J.ok Q (G (fr b T ds (.inRegion ops (i::rest)::k)) cs) s:=by
 refine Judge.Cf rfl (fun w=>?_) h;have O:=D1 (b:=b) (ds:=ds) (k:=k) T ops i rest undef o K;rw [← O];simp [G,stepG,stepG.exec,fr,K,hw]
end
end Pal
namespace Pal
open Go Go.Conc
def Yl(P:Program)(o:Oper)(ρ:Operand→Value)(s:St)(v:Value):Prop:=lp P (execOp ρ o) s (fun nx s'=>nx= .value v∧s'=s) (fun _ _=>False)
def C4(L:Env)(ρ:Operand→Value):Prop:=∀x v,ev L x=some v→ρ x=v
def AU(L:Env)(ops:Array Oper)(o:Oper):Option Bool:=
 match o.guard with
 | none=>some true
 | some (j,K)=>match(ops[j]?).bind (·.dst) with
  | some d=>match look L d with
   | some (.bool b)=>some (b==K)
   | some (.tuple _)=>some false
   | _=>none
  | none=>none
section
variable {P:Program}{J:Judge P}{Q:Goroutine→St→Prop}{b:Frame}{n:Nat}{L L':Env}{ds:List Deferred}{k:List Item}{cs:List Frame}{s s':St}
theorem Has.D4{T:Array Value}(h:Has n L T):C4 L (Bf T):=fun _ _ e=>h.ev e
theorem getD_some{T:Array Value}{d:Nat}{c:Bool}(h:T.getD d undef= .bool c):T[d]? =some (.bool c):=by
 rw [Array.getD_eq_getD_getElem?] at h;cases K:T[d]? with
 | none=>rw [K] at h;simp [undef] at h
 | some v=>rw [K] at h;simp at h;rw [h]
theorem B8{T:Array Value}{ops:Array Oper}{o:Oper}{c:Bool}(h:Has n L T)(hw:AU L ops o=some c):Region.wanted o (yielded ops T)=c:=by
 unfold AU at hw;unfold Region.wanted;cases K:o.guard with
 | none=>rw [K] at hw;simpa using hw
 | some p=>
  obtain⟨j,Z⟩:=p;rw [K] at hw;simp only at hw ⊢;cases O:(ops[j]?).bind (·.dst) with
  | none=>rw [O] at hw;simp at hw
  | some d=>
   rw [O] at hw;simp only at hw;cases U:look L d with
   | none=>rw [U] at hw;simp at hw
   | some v=>
    rw [U] at hw;cases v with
    | bool x=>
     simp only [Option.some.injEq] at hw;have:=getD_some (h.at_ d _ U);simp only [yielded,O,Option.bind_some,this];simp [← hw]
    | tuple c=>
     simp only [Option.some.injEq] at hw;have K:=h.at_ d _ U;simp only [yielded,O,Option.bind_some];cases W:T[d]? with
     | none=>simp [← hw]
     | some u=>
      have:u= .tuple c:=by rw [Array.getD_eq_getD_getElem?,W] at K;exact K
      subst this;simp [← hw]
    | _=>simp at hw
def Cs:Op→Bool | .defer _=>true | _=>false
def BR(b:Frame)(n:Nat)(o:Oper):Bool:=(b.kind != .early)&&(Bb n o.dst&& !Cs o.op)
theorem Yl.out{P:Program}{o:Oper}{ρ:Operand→Value}{s:St}{v:Value}(h:Yl P o ρ s v):Pal.lp P (execOp ρ o) s (fun nx s'=>nx= .value v∧s'=s) (fun _ _=>False):=by unfold Yl at h;exact h
theorem JL.y{ops:Array Oper}{i:Nat}{rest:List Nat}{o:Oper}{v:Value}(W:ops[i]? =some o)(hw:AU L ops o=some true)(K:BR b n o=true)
  (h:∀ρ,C4 L ρ→Yl P o ρ s v) (Z:JL J Q b n (AE L o.dst v) ds (.inRegion ops rest::k) cs s):
  JL J Q b n L ds (.inRegion ops (i::rest)::k) cs s:=fun T O=>by
 simp only [BR,Bool.and_eq_true] at K
 obtain⟨K,aa,U⟩:=K
 refine Judge.oper W (B8 O hw) (by simpa using K) (.inr fun c ab=>by rw [ab] at U;simp [Cs] at U) (Cl _ (h _ O.D4).out ?_ ?_)
 ·rintro nx s' ⟨rfl,rfl⟩
  exact Z _ (O.put aa v)
 ·intro _ _ ae;exact ae.elim
theorem JL.no{ops:Array Oper}{i:Nat}{rest:List Nat}{o:Oper}(O:ops[i]? =some o)(hw:AU L ops o=some false)(U:Bb n o.dst=true)
  (W:JL J Q b n (AE L o.dst undef) ds (.inRegion ops rest::k) cs s):
  JL J Q b n L ds (.inRegion ops (i::rest)::k) cs s:=fun _ K=>
 Judge.unwanted O (B8 K hw) (W _ (K.put U undef))
theorem JL.op{ops:Array Oper}{i:Nat}{rest:List Nat}{o:Oper}(aa:ops[i]? =some o)(hw:AU L ops o=some true)(K:BR b n o=true)
  (h:∀ρ,C4 L ρ→lp P (execOp ρ o) s (fun nx s'=>match nx with
   | .value v=>JL J Q b n (AE L o.dst v) ds (.inRegion ops rest::k) cs s'
   | .skip=>JL J Q b n (AE L o.dst undef) ds (.inRegion ops rest::k) cs s'
   | _=>False) (fun _ _=>False)):
  JL J Q b n L ds (.inRegion ops (i::rest)::k) cs s:=fun T O=>by
 simp only [BR,Bool.and_eq_true] at K
 obtain⟨K,W,Z⟩:=K
 refine Judge.oper aa (B8 O hw) (by simpa using K) (.inr fun c ab=>by rw [ab] at Z;simp [Cs] at Z) (Cl _ (h _ O.D4) ?_ ?_)
 ·intro nx s' U
  cases nx with
  | value v=>exact U _ (O.put W v)
  | skip=>exact U _ (O.put W undef)
  | _=>exact U.elim
 ·intro _ _ ae;exact ae.elim
end
section
variable {P:Program}{ρ:Operand→Value}{s:St}{x y z:Operand}{d:Option Tmp}{t u ty:TypeId}{p:String}{af:Array Edge}{g:Option (Nat×Bool)}{v:Value}{kd kd':IntKind}{m m':Int}
theorem Yl.move(K:ρ x=v):Yl P ⟨d,.move x,ty,p,af,g⟩ ρ s v:=by simp [Yl,execOp,lp,pure,K]
theorem Yl.assign(K:ρ x=v):Yl P ⟨d,.assign x,ty,p,af,g⟩ ρ s v:=by simp [Yl,execOp,lp,pure,K]
theorem Yl.RJ(K:ρ z= .bool true)(O:ρ x=v):Yl P ⟨d,.pick z x y,ty,p,af,g⟩ ρ s v:=by simp [Yl,execOp,lp,pure,bind,Sem.bind,asBool,K,O]
theorem Yl.Sg(K:ρ z= .bool false)(O:ρ y=v):Yl P ⟨d,.pick z x y,ty,p,af,g⟩ ρ s v:=by simp [Yl,execOp,lp,pure,bind,Sem.bind,asBool,K,O]
theorem Yl.lss(K:ρ x= .int kd m)(O:ρ y= .int kd m'):Yl P ⟨d,.binOp .lss t x y u,ty,p,af,g⟩ ρ s (.bool (decide (m<m'))):=by
 simp [Yl,execOp,lp,pure,bind,Sem.bind,K,O,eqGuard,Go.binOp,Op.intCmp]
theorem Yl.leq(K:ρ x= .int kd m)(O:ρ y= .int kd m'):Yl P ⟨d,.binOp .leq t x y u,ty,p,af,g⟩ ρ s (.bool (decide (m≤m'))):=by
 simp [Yl,execOp,lp,pure,bind,Sem.bind,K,O,eqGuard,Go.binOp,Op.intCmp]
theorem Yl.gtr(K:ρ x= .int kd m)(O:ρ y= .int kd m'):Yl P ⟨d,.binOp .gtr t x y u,ty,p,af,g⟩ ρ s (.bool (decide (m'<m))):=by
 simp [Yl,execOp,lp,pure,bind,Sem.bind,K,O,eqGuard,Go.binOp,Op.intCmp]
theorem Yl.geq(K:ρ x= .int kd m)(O:ρ y= .int kd m'):Yl P ⟨d,.binOp .geq t x y u,ty,p,af,g⟩ ρ s (.bool (decide (m'≤m))):=by
 simp [Yl,execOp,lp,pure,bind,Sem.bind,K,O,eqGuard,Go.binOp,Op.intCmp]
theorem Yl.eql(K:ρ x= .int kd m)(O:ρ y= .int kd m'):Yl P ⟨d,.binOp .eql t x y u,ty,p,af,g⟩ ρ s (.bool (decide (m=m'))):=by
 simp [Yl,execOp,lp,pure,bind,Sem.bind,K,O,eqGuard,Go.binOp,Op.intCmp];rfl
theorem Yl.neq(K:ρ x= .int kd m)(O:ρ y= .int kd m'):Yl P ⟨d,.binOp .neq t x y u,ty,p,af,g⟩ ρ s (.bool (!decide (m=m'))):=by
 simp [Yl,execOp,lp,pure,bind,Sem.bind,K,O,eqGuard,Go.binOp,Op.intCmp];rfl
theorem Yl.add(K:ρ x= .int kd m)(O:ρ y= .int kd m'):Yl P ⟨d,.binOp .add t x y u,ty,p,af,g⟩ ρ s (.int kd (kd.wrap (m+m'))):=by
 simp [Yl,execOp,lp,pure,bind,Sem.bind,K,O,eqGuard,Go.binOp,Op.intArith]
theorem Yl.sub(K:ρ x= .int kd m)(O:ρ y= .int kd m'):Yl P ⟨d,.binOp .sub t x y u,ty,p,af,g⟩ ρ s (.int kd (kd.wrap (m - m'))):=by
 simp [Yl,execOp,lp,pure,bind,Sem.bind,K,O,eqGuard,Go.binOp,Op.intArith]
theorem Yl.mul(K:ρ x= .int kd m)(O:ρ y= .int kd m'):Yl P ⟨d,.binOp .mul t x y u,ty,p,af,g⟩ ρ s (.int kd (kd.wrap (m*m'))):=by
 simp [Yl,execOp,lp,pure,bind,Sem.bind,K,O,eqGuard,Go.binOp,Op.intArith]
theorem Gf{a:Int}(h: -9223372036854775808≤a∧a≤9223372036854775807):IntKind.i64.wrap a=a:=by
 simp only [IntKind.wrap,IntKind.bits,IntKind.signed];simp;split <;> omega
theorem Yl.Tl(K:ρ x= .int .i64 m)(O:ρ y= .int .i64 m')(hb: -9223372036854775808≤m+m'∧m+m'≤9223372036854775807):Yl P ⟨d,.binOp .add t x y u,ty,p,af,g⟩ ρ s (.int .i64 (m+m')):=by
 have:=Yl.add (P:=P) (s:=s) (d:=d) (t:=t) (u:=u) (ty:=ty) (p:=p) (af:=af) (g:=g) K O;rwa [Gf hb] at this
theorem Yl.Te(K:ρ x= .int .i64 m)(O:ρ y= .int .i64 m')(hb: -9223372036854775808≤m - m'∧m - m'≤9223372036854775807):Yl P ⟨d,.binOp .sub t x y u,ty,p,af,g⟩ ρ s (.int .i64 (m - m')):=by
 have:=Yl.sub (P:=P) (s:=s) (d:=d) (t:=t) (u:=u) (ty:=ty) (p:=p) (af:=af) (g:=g) K O;rwa [Gf hb] at this
theorem Yl.To(K:ρ x= .int .i64 m)(O:ρ y= .int .i64 m')(hb: -9223372036854775808≤m*m'∧m*m'≤9223372036854775807):Yl P ⟨d,.binOp .mul t x y u,ty,p,af,g⟩ ρ s (.int .i64 (m*m')):=by
 have:=Yl.mul (P:=P) (s:=s) (d:=d) (t:=t) (u:=u) (ty:=ty) (p:=p) (af:=af) (g:=g) K O;rwa [Gf hb] at this
theorem Yl.rem(K:ρ x= .int kd m)(O:ρ y= .int kd m')(U:m'≠0):Yl P ⟨d,.binOp .rem t x y u,ty,p,af,g⟩ ρ s (.int kd (m.tmod m')):=by
 simp [Yl,execOp,lp,pure,bind,Sem.bind,K,O,eqGuard,Go.binOp,Op.intDiv,U]
theorem Yl.quo(K:ρ x= .int kd m)(O:ρ y= .int kd m')(U:m'≠0):Yl P ⟨d,.binOp .quo t x y u,ty,p,af,g⟩ ρ s (.int kd (kd.wrap (m.tdiv m'))):=by
 simp [Yl,execOp,lp,pure,bind,Sem.bind,K,O,eqGuard,Go.binOp,Op.intDiv,U]
theorem Yl.and(K:ρ x= .int kd m)(O:ρ y= .int kd m'):Yl P ⟨d,.binOp .and t x y u,ty,p,af,g⟩ ρ s (.int kd (kd.wrap (BitVec.ofInt kd.bits m&&& BitVec.ofInt kd.bits m').toNat)):=by
 simp [Yl,execOp,lp,pure,bind,Sem.bind,K,O,eqGuard,Go.binOp,Op.intBits]
theorem Yl.or(K:ρ x= .int kd m)(O:ρ y= .int kd m'):Yl P ⟨d,.binOp .or t x y u,ty,p,af,g⟩ ρ s (.int kd (kd.wrap (BitVec.ofInt kd.bits m ||| BitVec.ofInt kd.bits m').toNat)):=by
 simp [Yl,execOp,lp,pure,bind,Sem.bind,K,O,eqGuard,Go.binOp,Op.intBits]
theorem Yl.xor(K:ρ x= .int kd m)(O:ρ y= .int kd m'):Yl P ⟨d,.binOp .xor t x y u,ty,p,af,g⟩ ρ s (.int kd (kd.wrap (BitVec.ofInt kd.bits m ^^^ BitVec.ofInt kd.bits m').toNat)):=by
 simp [Yl,execOp,lp,pure,bind,Sem.bind,K,O,eqGuard,Go.binOp,Op.intBits]
theorem Yl.shl(K:ρ x= .int kd m)(O:ρ y= .int kd' m')(U:0≤m'):Yl P ⟨d,.binOp .shl t x y u,ty,p,af,g⟩ ρ s (.int kd (kd.wrap (m*2 ^ (min m'.toNat kd.bits)))):=by
 have:¬m'<0:=by omega
 simp [Yl,execOp,lp,pure,bind,Sem.bind,K,O,eqGuard,Go.binOp,Op.shift,this]
theorem Yl.shr(K:ρ x= .int kd m)(O:ρ y= .int kd' m')(U:0≤m'):Yl P ⟨d,.binOp .shr t x y u,ty,p,af,g⟩ ρ s (.int kd (m.fdiv (2 ^ (min m'.toNat kd.bits)))):=by
 have:¬m'<0:=by omega
 simp [Yl,execOp,lp,pure,bind,Sem.bind,K,O,eqGuard,Go.binOp,Op.shift,this]
theorem Yl.not{c:Bool}(K:ρ x= .bool c):Yl P ⟨d,.unOp .not t x,ty,p,af,g⟩ ρ s (.bool (!c)):=by
 simp [Yl,execOp,lp,pure,bind,Sem.bind,K,Op.unary]
theorem Yl.conv(ht:P.underlying t=some (.int kd'))(hu:P.underlying u=some (.int kd))(K:ρ x= .int kd' m):Yl P ⟨d,.convert t u x,ty,p,af,g⟩ ρ s (.int kd (kd.wrap m)):=by
 simp [Yl,execOp,lp,pure,bind,Sem.bind,K,Go.convert,underlying,program,ht,hu,Conv.intToInt]
theorem Yl.extract{vs:Array Value}{i:Nat}(K:ρ x= .tuple vs)(hi:vs[i]? =some v):Yl P ⟨d,.extract x i,ty,p,af,g⟩ ρ s v:=by
 simp [Yl,execOp,lp,pure,bind,Sem.bind,K,Instr.extract,hi]
theorem Yl.nilCheck{a:Addr}(K:ρ x= .pointer (some a)):Yl P ⟨d,.nilCheck x,ty,p,af,g⟩ ρ s (.pointer (some a)):=by
 simp [Yl,execOp,lp,pure,K]
theorem Yl.len{a:Option Addr}{e:TypeId}{l c:Nat}{ats:Array TypeId}(K:ats[0]? =some t)(ht:P.underlying t=some (.slice e))(O:ρ x= .slice a l c):
  Yl P ⟨d,.call ⟨.builtin .len,#[x],ats⟩,ty,p,af,g⟩ ρ s (.int .i64 l):=by
 simp [Yl,execOp,lp,pure,bind,Sem.bind,O,resolve,invoke,builtin,Builtin.len_,K,underlying,program,ht,goInt]
theorem Yl.Dt{K:TypeDesc}(ht:P.underlying t=some K)(O:∀ms,K≠ .interface ms)(U:ρ x=v):Yl P ⟨d,.makeInterface t x,ty,p,af,g⟩ ρ s (.iface t v):=by
 have:lp P (Instr.makeInterface t v) s (fun r s'=>r= .iface t v∧s'=s) (fun _ _=>False):=by
  unfold Instr.makeInterface;simp only [lp,bind,Sem.bind,underlying,program,ht];cases K <;> first | exact⟨rfl,rfl⟩ | exact absurd rfl (O _)
 simp only [Yl,execOp,U];exact AD _ _ (Cl _ this (fun r s' ⟨W,Z⟩=>⟨by rw [W],Z⟩) (fun _ _ h=>h))
theorem Yl.Gm{fn:Fn}{a c:Array Operand}{K O:Array Value}(U:a.map ρ=K)(W:c.map ρ=O):Yl P ⟨d,.makeFunc fn a c,ty,p,af,g⟩ ρ s (.func fn K O):=by
 simp [Yl,execOp,lp,pure,bind,Sem.bind,Instr.makeFunc,U,W]
end
attribute [irreducible] Yl
end Pal
namespace Pal
open Go Go.Conc
def Le(E E':LH):Prop:=∀b o,E b=some o→E' b=some o
theorem Le.refl(E:LH):Le E E:=fun _ _ h=>h
theorem Le.trans{E E' K:LH}(h:Le E E')(k:Le E' K):Le E K:=fun b o x=>k b o (h b o x)
def AS:List (Nat×Obj)→LH→LH
 | [],H=>H
 | (b,o)::B,H=>fun x=>if x=b then some o else AS B H x
def mk(E H:LH)(B:List (Nat×Obj)):St:=⟨E,AS B H,false⟩
def Nd(E H:LH):List (Nat×Obj)→Prop
 | []=>True
 | (b,_)::B=>E b=none∧H b=none∧(∀p∈B,p.1≠b)∧Nd E H B
theorem LK{H:LH}{b:Nat}:∀{B:List (Nat×Obj)},H b=none→(∀p∈B,p.1≠b)→AS B H b=none
 | [],h,_=>h
 | (c,o)::B,h,hb=>by
  have K:b≠c:=fun e=>hb (c,o) (by simp) e.symm
  simp only [AS,if_neg K]
  exact LK h fun p O=>hb p (List.mem_cons_of_mem _ O)
theorem Ep{H:LH}{b:Nat}:∀{B:List (Nat×Obj)},AS B H b=none→H b=none∧∀p∈B,p.1≠b
 | [],h=>⟨h,by simp⟩
 | (c,o)::B,h=>by
  simp only [AS] at h
  split at h
  ·cases h
  ·rename_i O;obtain⟨U,W⟩:=Ep h;refine⟨U,fun p K=>?_⟩;rcases List.mem_cons.1 K with rfl | K
   ·exact fun e=>O e.symm
   ·exact W p K
theorem Lr{H:LH}{x:Nat}{o:Obj}{r:Nat}:∀{B:List (Nat×Obj)},(∀p∈B,p.1≠r)→AS (B++ [(r,o)]) H x=if x=r then some o else AS B H x
 | [],_=>rfl
 | (c,u)::B,h=>by
  simp only [List.cons_append,AS]
  by_cases e:x=c
  ·subst e
   have:x≠r:=fun e=>h (x,u) (by simp) e;simp [this]
  ·simp only [if_neg e];exact Lr fun p K=>h p (List.mem_cons_of_mem _ K)
theorem Nd.append{E H:LH}{r:Nat}{o:Obj}(O:E r=none)(U:H r=none):∀{B:List (Nat×Obj)},(∀p∈B,p.1≠r)→Nd E H B→Nd E H (B++ [(r,o)])
 | [],_,_=>⟨O,U,by simp,trivial⟩
 | (c,u)::B,h,W=>by
  obtain⟨Z,aa,ab,ae⟩:=W
  refine⟨Z,aa,fun p K=>?_,Nd.append O U (fun p K=>h p (List.mem_cons_of_mem _ K)) ae⟩
  rcases List.mem_append.1 K with K | K
  ·exact ab p K
  ·simp at K;subst K;exact fun e=>h (c,u) (by simp) e.symm
theorem FV{E H:LH}{b:Nat}{o:Obj}:∀{B:List (Nat×Obj)} {i:Nat},Nd E H B→B[i]? =some (b,o)→AS B H b=some o
 | [],_,_,h=>by simp at h
 | (c,u)::B,0,_,h=>by simp at h;obtain⟨rfl,rfl⟩:=h;simp [AS]
 | (c,u)::B,i+1,K,h=>by
  simp at h
  have O:b≠c:=K.2.2.1 (b,o) (List.mem_of_getElem? h)
  simp only [AS,if_neg O]
  exact FV K.2.2.2 h
theorem LZ{E H:LH}{b:Nat}{o o':Obj}:∀{B:List (Nat×Obj)} {i:Nat},Nd E H B→B[i]? =some (b,o)→AS (B.set i (b,o')) H=fun x=>if x=b then some o' else AS B H x
 | [],_,_,h=>by simp at h
 | (c,u)::B,0,_,h=>by
  simp at h;obtain⟨rfl,rfl⟩:=h
  funext x
  simp only [List.set_cons_zero,AS]
  split <;> rfl
 | (c,u)::B,i+1,K,h=>by
  simp at h
  have O:b≠c:=K.2.2.1 (b,o) (List.mem_of_getElem? h)
  funext x
  simp only [List.set_cons_succ,AS]
  rw [LZ K.2.2.2 h]
  by_cases e:x=c
  ·subst e;simp [Ne.symm O]
  ·simp [e]
theorem Nd.set{E H:LH}{b:Nat}{o o':Obj}:∀{B:List (Nat×Obj)} {i:Nat},Nd E H B→B[i]? =some (b,o)→Nd E H (B.set i (b,o'))
 | [],_,_,h=>by simp at h
 | (c,u)::B,0,K,h=>by simp at h;obtain⟨rfl,rfl⟩:=h;exact K
 | (c,u)::B,i+1,K,h=>by
  simp at h
  refine⟨K.1,K.2.1,fun p O=>?_,K.2.2.2.set h⟩
  have hm:=List.mem_or_eq_of_mem_set O
  rcases hm with hm | rfl
  ·exact K.2.2.1 p hm
  ·exact K.2.2.1 (b,o) (List.mem_of_getElem? h)
theorem Nd.ML{E H:LH}{b:Nat}{o:Obj}:∀{B:List (Nat×Obj)} {i:Nat},Nd E H B→B[i]? =some (b,o)→E b=none
 | [],_,_,h=>by simp at h
 | (c,u)::B,0,K,h=>by simp at h;obtain⟨rfl,rfl⟩:=h;exact K.1
 | (c,u)::B,i+1,K,h=>by simp at h;exact Nd.ML K.2.2.2 h
theorem JN{E H:LH}{B:List (Nat×Obj)}{i b:Nat}{o:Obj}(K:Nd E H B)(h:B[i]? =some (b,o)):(mk E H B).get b=some o:=by
 unfold St.get mk;simp only [K.ML h,FV K h]
theorem OT{E H:LH}{B:List (Nat×Obj)}{b:Nat}{o:Obj}(h:E b=some o):(mk E H B).get b=some o:=by
 unfold St.get mk;simp only [h]
theorem Mi{E H:LH}{B:List (Nat×Obj)}{i b off:Nat}{c:Array Value}{e:TypeId}{f:Nat×Nat}{v:Value}(K:Nd E H B)(h:B[i]? =some (b,.cells c e f))(O:c[off]? =some v):(mk E H B).cell? ⟨b,off,none⟩=some v:=by
 unfold St.cell?;rw [JN K h];exact O
theorem PC{E H:LH}{B:List (Nat×Obj)}{b off:Nat}{c:Array Value}{e:TypeId}{f:Nat×Nat}{v:Value}(h:E b=some (.cells c e f))(K:c[off]? =some v):(mk E H B).cell? ⟨b,off,none⟩=some v:=by
 unfold St.cell?;rw [OT h];exact K
section
variable {P:Program}{J:Judge P}{Q:Goroutine→St→Prop}{b:Frame}{n:Nat}{L L':Env}{ds:List Deferred}{k:List Item}{cs:List Frame}{E H:LH}{B B':List (Nat×Obj)}
theorem GK{r:Nat}(O:(mk E H B).E r=none)(U:(mk E H B).H r=none)(o:Obj)(W:Nd E H B):Nd E H (B++ [(r,o)])∧(mk E H B).upd r o=mk E H (B++ [(r,o)]):=by
 obtain⟨Z,K⟩:=Ep U;refine⟨Nd.append O Z K W,?_⟩;unfold St.upd mk;congr 1;funext x;exact(Lr K).symm
theorem Rx{i K:Nat}{o o':Obj}(O:Nd E H B)(h:B[i]? =some (K,o)):(mk E H B).upd K o'=mk E H (B.set i (K,o')):=by
 unfold St.upd mk;congr 1;exact(LZ O h).symm
theorem JL.drop(B':List (Nat×Obj))(h:∀p∈B',∃i:Nat,B[i]? =some p)(U:Nd E H B)(k':JL J Q b n L ds k cs (mk E H B')):JL J Q b n L ds k cs (mk E H B):=
 JL.ghost (s':=mk E H B') ⟨fun _ _ h=>h,fun x o O=>by
  show AS B H x=some o
  have key:∀{B':List (Nat×Obj)},(∀p∈B',∃i:Nat,B[i]? =some p)→AS B' H x=some o→AS B H x=some o:=by
   intro B'
   induction B' with
   | nil=>
    intro _ O
    have ae:∀p∈B,p.1≠x:=by
     intro p K e
     have:∀{B:List (Nat×Obj)},Nd E H B→p∈B→H p.1=none:=by
      intro B U K
      induction B with
      | nil=>simp at K
      | cons q B W=>
       rcases List.mem_cons.1 K with rfl | K
       ·exact U.2.1
       ·exact W U.2.2.2 K
     have aa:=this U K
     rw [e] at aa
     have ab:H x=some o:=O
     rw [aa] at ab;cases ab
    have:∀{B:List (Nat×Obj)},(∀p∈B,p.1≠x)→AS B H x=H x:=by
     intro B Z
     induction B with
     | nil=>rfl
     | cons q B W=>
      have ag:x≠q.1:=fun e=>Z q (by simp) e.symm
      obtain⟨c,u⟩:=q
      simp only [AS,if_neg ag]
      exact W fun p K=>Z p (List.mem_cons_of_mem _ K)
    rw [this ae];exact O
   | cons q B' W=>
    intro Z O
    obtain⟨c,u⟩:=q
    simp only [AS] at O
    split at O
    ·rename_i e;subst e;cases O
     obtain⟨i,hi⟩:=Z (x,o) (by simp)
     exact FV U hi
    ·exact W (fun p K=>Z p (List.mem_cons_of_mem _ K)) O
  exact key h O,fun _ _ h=> .inl h,rfl⟩ k'
theorem JI{x:Nat}:∀{B:List (Nat×Obj)} {i:Nat} {O:Nat} {o u:Obj},Nd E H B→B[i]? =some (O,o)→AS (B.eraseIdx i) H x=some u→x≠O∧AS B H x=some u
 | [],_,_,_,_,_,h,_=>by simp at h
 | (c,v)::B,0,O,o,u,U,h,K=>by
  simp at h;obtain⟨rfl,rfl⟩:=h
  simp only [List.eraseIdx_cons_zero] at K
  have W:x≠c:=by
   intro e;subst e;rw [LK U.2.1 U.2.2.1] at K;cases K
  exact⟨W,by simp only [AS,if_neg W];exact K⟩
 | (c,v)::B,i+1,O,o,u,U,h,K=>by
  simp at h;simp only [List.eraseIdx_cons_succ,AS] at K ⊢;split at K
  ·rename_i e;subst e;rw [if_pos rfl];exact⟨fun e=>U.2.2.1 (O,o) (List.mem_of_getElem? h) e.symm,K⟩
  ·rename_i e;rw [if_neg e];exact JI U.2.2.2 h K
theorem JL.freeze(i:Nat){O:Nat}{o:Obj}(K:Nd E H B)(h:B[i]? =some (O,o))
  (k':∀E',Le E E'→E' O=some o→Nd E' H (B.eraseIdx i)→JL J Q b n L ds k cs (mk E' H (B.eraseIdx i))):JL J Q b n L ds k cs (mk E H B):=by
 have ai:=List.mem_of_getElem? h;have aj:E O=none∧H O=none:=by
  have:∀{B:List (Nat×Obj)},Nd E H B→(O,o)∈B→E O=none∧H O=none:=by
   intro B K U
   induction B with
   | nil=>simp at U
   | cons q B Z=>
    rcases List.mem_cons.1 U with rfl | U
    ·exact⟨K.1,K.2.1⟩
    ·exact Z K.2.2.2 U
  exact this K ai
 let E':LH:=fun x=>if x=O then some o else E x
 have ae:E' O=some o:=by simp [E']
 have hle:Le E E':=fun x u W=>by
  have:x≠O:=fun e=>by subst e;rw [aj.1] at W;cases W
  simp [E',this,W]
 have ak:Nd E' H (B.eraseIdx i):=by
  have:∀{B:List (Nat×Obj)} {i:Nat},Nd E H B→B[i]? =some (O,o)→Nd E' H (B.eraseIdx i)∧∀p∈B.eraseIdx i,p.1≠O:=by
   intro B
   induction B with
   | nil=>intro i _ h;simp at h
   | cons q B Z=>
    obtain⟨c,v⟩:=q;intro i K h;have up:∀{B:List (Nat×Obj)},Nd E H B→(∀p∈B,p.1≠O)→Nd E' H B:=by
     intro B K ag
     induction B with
     | nil=>trivial
     | cons q B al=>exact⟨by simpa [E',ag q (by simp)] using K.1,K.2.1,K.2.2.1,al K.2.2.2 fun p U=>ag p (List.mem_cons_of_mem _ U)⟩
    cases i with
    | zero=>
     simp at h;obtain⟨rfl,rfl⟩:=h;exact⟨up K.2.2.2 K.2.2.1,K.2.2.1⟩
    | succ i=>
     simp at h;obtain⟨aa,ab⟩:=Z K.2.2.2 h;have ah:c≠O:=fun e=>K.2.2.1 (O,o) (List.mem_of_getElem? h) e.symm;refine⟨⟨by simpa [E',ah] using K.1,K.2.1,fun p U=>K.2.2.1 p (List.mem_of_mem_eraseIdx U),aa⟩,fun p U=>?_⟩;rcases List.mem_cons.1 U with rfl | U
     ·exact ah
     ·exact ab p U
  exact(this K h).1
 refine JL.ghost (s':=mk E' H (B.eraseIdx i)) ⟨fun x u W=>hle x u W,fun x u W=>(JI K h W).2,fun x u W=>?_,rfl⟩ (k' E' hle ae ak);by_cases e:x=O
 ·subst e;right;have:u=o:=by have:E' x=some u:=W;rw [ae] at this;exact(Option.some.inj this).symm
  subst this;refine⟨FV K h,?_⟩;cases am:(mk E' H (B.eraseIdx i)).H x with
  | none=>rfl
  | some y=>exact absurd rfl (JI K h am).1
 ·left;have aa:E' x=some u:=W;have ab:E' x=E x:=by simp [E',e]
  show E x=some u;rw [← ab];exact aa
def Fn(P:Program)(f:FuncId)(args:Array Value)(s:St)(R:Value→St→Prop):Prop:=
 ∀(J:Judge P) (Q:Goroutine→St→Prop) (c:Frame) (cs:List Frame),(∀v s',R v s'→J.ok Q (G (c.finish v) cs) s')→J.ok Q (G (Frame.enter P f args .normal) (c::cs)) s
def Cv(P:Program)(f:FuncId):Bool:=match P.funcs[f]? with | some fn=> !(fn.name== "runtime.NumGoroutine")&&fn.body.isSome | none=>false
def evs(L:Env):List Operand→Option (List Value)
 | []=>some []
 | x::xs=>match ev L x,evs L xs with | some v,some vs=>some (v::vs) | _,_=>none
theorem Ed{L:Env}{ρ:Operand→Value}(h:C4 L ρ):∀{xs:List Operand} {vs:List Value},evs L xs=some vs→xs.map ρ=vs
 | [],vs,e=>by simp [evs] at e;subst e;rfl
 | x::xs,vs,e=>by
  simp only [evs] at e
  split at e
  ·rename_i v ws K O
   cases e;rw [List.map_cons,h x v K,Ed h O]
  ·cases e
theorem Ge{f:FuncId}{args:Array Value}{s:St}{Q:Next→St→Prop}{X:Halt→St→Prop}(K:Cv P f=true)(h:Q (.enter f args) s):lp P (callFunc f args) s Q X:=by
 unfold Cv at K;unfold callFunc;simp only [bind,Sem.bind,program,lp];cases O:P.funcs[f]? with
 | none=>rw [O] at K;cases K
 | some fn=>
  rw [O] at K;simp only [Bool.and_eq_true,Bool.not_eq_true'] at K;have hb:fn.body.isNone=false:=by cases U:fn.body <;> simp_all
  simp only [K.1,hb,Bool.false_eq_true,if_false];exact h
theorem JL.call{s:St}{ops:Array Oper}{i:Nat}{rest:List Nat}{d:Option Tmp}{f:FuncId}{args:Array Operand}{ats:Array TypeId}{ty:TypeId}{p:String}{af:Array Edge}{g:Option (Nat×Bool)}{vs:List Value}{R:Value→St→Prop}
  (U:ops[i]? =some ⟨d,.call ⟨.value (.func f),args,ats⟩,ty,p,af,g⟩) (hw:AU L ops ⟨d,.call ⟨.value (.func f),args,ats⟩,ty,p,af,g⟩=some true) (K:((b.kind != .early)&&Bb n d)=true) (hb:Cv P f=true)
  (W:evs L args.toList=some vs) (Z:Fn P f vs.toArray s R) (aa:∀v s',R v s'→JL J Q b n (AE L d v) ds (.inRegion ops rest::k) cs s'):
  JL J Q b n L ds (.inRegion ops (i::rest)::k) cs s:=fun T O=>by
 simp only [Bool.and_eq_true] at K
 have ab:args.map (Bf T)=vs.toArray:=by
  rw [← Ed O.D4 W];apply Array.ext';simp
 refine Judge.oper U (B8 O hw) (by simpa using K.1) (.inr fun c ae=>by cases ae) ?_;have ag:lp P (execOp (Bf T) ⟨d,.call ⟨.value (.func f),args,ats⟩,ty,p,af,g⟩) s (upon J Q b T ds ops i rest k cs d) (HT J Q b T ds ops i rest k cs):=by
  simp only [execOp,resolve,bind,Sem.bind,Deferred.ofValue,Bf,pure,invoke];have e: #[]++args.map (Bf T)++ #[]=vs.toArray:=by rw [ab];simp
  rw [e];refine Ge hb ?_;refine Z J Q _ cs fun v s' ah=>?_;rw [D1 (o:=⟨d,.call ⟨.value (.func f),args,ats⟩,ty,p,af,g⟩) _ _ _ _ _ U];exact aa v s' ah _ (O.put K.2 v)
 exact ag
def Bv(P:Program)(f:FuncId)(L:Env)(n:Nat)(s:St)(v:Value):Prop:=∃fn,P.funcs[f]? =some fn∧∀T,Has n L T→lp P (results fn T) s (fun u s'=>u=v∧s'=s) (fun _ _=>False)
theorem Judge.leave{T:Array Value}{todo:List Item}{c:Frame}{s:St}{v:Value}{fn:Func}(W:b.kind= .normal)(Z:P.funcs[b.fn]? =some fn)(U:lp P (results fn T) s (fun u s'=>u=v∧s'=s) (fun _ _=>False))
  (h:J.ok Q (G (c.finish v) cs) s):J.ok Q (G (CR b T [] todo) (c::cs)) s:=by
 refine J.step ⟨rfl,fun w f=>?_,fun e=>?_⟩
 rotate_left
 ·subst e;obtain⟨es,he,ag,U⟩:=JX _ U;have ah:seen P b.fn es= #[]:=JE ag;rcases U with⟨u,⟨rfl,_⟩,O⟩ | ⟨x,K,_⟩
  ·exact⟨_,fun w=>by simp [G,stepG,unwind,CR,Z,O,doReturn,W,GStep.after,he,ah],h⟩
  ·exact K.elim
 obtain⟨s',aa,ab,ae,K⟩:=IA _ U f;cases O:(results fn T).run P w with
 | halt x w'=>rw [O] at K;exact K.elim
 | ok u w'=>
  rw [O] at aa ab ae K;obtain⟨rfl,rfl⟩:=K;exact⟨_,s',w',seen P b.fn ((results fn T).events P w #[])++ #[],by simp [G,stepG,unwind,CR,Z,O,doReturn,W,GStep.after],h,aa,ab,by simp only [Array.append_empty];exact Ke ae⟩
theorem JL.ret{s:St}{c:Frame}{v:Value}(O:b.kind= .normal)(U:b.roundOf=none)(K:Bv P b.fn L n s v)(h:J.ok Q (G (c.finish v) cs) s):JL J Q b n L [] (.code .ret::k) (c::cs) s:=fun T W=>by
 obtain⟨fn,Z,K⟩:=K
 refine Judge.Cf (g':=G (CR b T [] (.code .ret::k)) (c::cs)) rfl (fun w=>by simp [G,stepG,stepG.exec,fr,CR,U]) ?_
 exact Judge.leave O Z (K T W) h
theorem JL.fin{s:St}{c:Frame}{v:Value}(O:b.kind= .normal)(U:b.roundOf=none)(K:Bv P b.fn L n s v)(h:J.ok Q (G (c.finish v) cs) s):JL J Q b n L [] [] (c::cs) s:=fun T W=>by
 obtain⟨fn,Z,K⟩:=K
 refine Judge.Cf (g':=G (CR b T [] []) (c::cs)) rfl (fun w=>by simp [G,stepG,stepG.exec,fr,CR,U]) ?_
 exact Judge.leave O Z (K T W) h
theorem Bv.one{f:FuncId}{fn:Func}{s:St}{t:Tmp}{v:Value}(K:P.funcs[f]? =some fn)(O:fn.results= #[.tmp t])(h:look L t=some v):Bv P f L n s v:=
 ⟨fn,K,fun T U=>by
  have e:results fn T=Sem.pure v:=by
   have:=U.at_ t v h
   simp only [results,O,Array.mapM_eq_mapM_toList]
   show Sem.pure (T.getD t undef)=_
   rw [this]
  rw [e];exact⟨rfl,rfl⟩⟩
theorem Bv.none{f:FuncId}{fn:Func}{s:St}(K:P.funcs[f]? =some fn)(O:fn.results= #[]):Bv P f L n s (.tuple #[]):=
 ⟨fn,K,fun T U=>by
  have e:results fn T=Sem.pure (.tuple #[]):=by
   simp only [results,O,Array.mapM_eq_mapM_toList]
   rfl
  rw [e];exact⟨rfl,rfl⟩⟩
theorem Bv.two{f:FuncId}{fn:Func}{s:St}{t u:Tmp}{v v':Value}(O:P.funcs[f]? =some fn)(U:fn.results= #[.tmp t,.tmp u])(h:look L t=some v)(W:look L u=some v'):Bv P f L n s (.tuple #[v,v']):=
 ⟨fn,O,fun T K=>by
  have e:results fn T=Sem.pure (.tuple #[v,v']):=by
   have Z:=K.at_ t v h
   have aa:=K.at_ u v' W
   simp only [results,U,Array.mapM_eq_mapM_toList]
   show Sem.pure (Value.tuple #[T.getD t undef,T.getD u undef])=_
   rw [Z,aa]
  rw [e];exact⟨rfl,rfl⟩⟩
def D5:Nat→List Value→Env
 | _,[]=> []
 | i,v::vs=>(i,v)::D5 (i+1) vs
theorem GI{i:Nat}{vs:List Value}{t:Nat}{v:Value}(h:look (D5 i vs) t=some v):i≤t∧vs[t - i]? =some v:=by
 induction vs generalizing i with
 | nil=>simp [D5,look] at h
 | cons u vs K=>
  simp only [D5,look] at h;split at h
  ·rename_i e;subst e;cases h;simp
  ·rename_i U;obtain⟨W,O⟩:=K h;refine⟨by omega,?_⟩;have:t - i=(t - (i+1))+1:=by omega
   rw [this];simpa using O
end
end Pal
namespace Pal
open Go Go.Conc
def Bj(P:Program)(t:TypeId):Option Nat:=(P.info? t).map (·.size)
def CM(P:Program)(t:TypeId):Option Bool:=match P.underlying t with | some (.struct _)=>some true | some (.array _ _)=>some true | some _=>some false | none=>none
def zeroOf(P:Program)(t:TypeId):Option Value:=(P.info? t).bind (·.zero)
section
variable {P:Program}{s:St}{t:TypeId}
theorem Di{K:Nat}{Q:Nat→St→Prop}{X:Halt→St→Prop}(h:Bj P t=some K)(k:Q K s):lp P (Go.sizeOf t) s Q X:=by
 unfold Bj at h;simp only [Go.sizeOf,typeInfo,bind,Sem.bind,program,lp];cases hi:P.info? t with
 | none=>rw [hi] at h;cases h
 | some i=>rw [hi] at h;simp at h;subst h;exact k
theorem D9{z:Value}{Q:Value→St→Prop}{X:Halt→St→Prop}(h:zeroOf P t=some z)(k:Q z s):lp P (zeroValue t) s Q X:=by
 unfold zeroOf at h;simp only [zeroValue,typeInfo,bind,Sem.bind,program,lp];cases hi:P.info? t with
 | none=>rw [hi] at h;cases h
 | some i=>
  rw [hi] at h;simp at h;show lp P (match i.zero with | some v=>pure v | none=>unsupported _) s Q X
  rw [h];exact k
theorem Hs{c:Bool}{Q:Bool→St→Prop}{X:Halt→St→Prop}(h:CM P t=some c)(k:Q c s):lp P (isAgg t) s Q X:=by
 unfold CM at h;simp only [isAgg,underlying,bind,Sem.bind,program,lp];cases hu:P.underlying t with
 | none=>rw [hu] at h;cases h
 | some u=>
  rw [hu] at h;cases u <;> simp at h <;> subst h <;> exact k
theorem Ck{u:TypeDesc}{Q:TypeDesc→St→Prop}{X:Halt→St→Prop}(h:P.underlying t=some u)(k:Q u s):lp P (underlying t) s Q X:=by
 simp only [underlying,bind,Sem.bind,program,lp,h];exact k
theorem M7{a:Addr}{v:Value}{Q:Value→St→Prop}{X:Halt→St→Prop}(h:s.cell? a=some v)(k:Q v s):lp P (load a) s Q X:=⟨rfl,v,h,k⟩
theorem Lj{a:Addr}{Q:Array Value→St→Prop}{X:Halt→St→Prop}:∀(vs:List Value) (i:Nat) (acc:Array Value),(∀j v,vs[j]? =some v→s.cell? (a.add (i+j))=some v)→Q (acc++vs.toArray) s→lp P (loadCellsFrom a i vs.length acc) s Q X
 | [],i,acc,_,k=>by simpa [loadCellsFrom,lp,pure] using k
 | v::vs,i,acc,h,k=>by
  simp only [List.length_cons,loadCellsFrom]
  refine AD _ _ (M7 (h 0 v rfl) ?_)
  refine Lj vs (i+1) (acc.push v) (fun j u K=>?_) (by simpa using k)
  have:=h (j+1) u (by simpa using K)
  rwa [show i+1+j=i+(j+1) from by omega]
theorem Ls{a:Addr}{vs:List Value}{m:Nat}{Q:Array Value→St→Prop}{X:Halt→St→Prop}(hm:m=vs.length)(h:∀j v,vs[j]? =some v→s.cell? (a.add j)=some v)(k:Q vs.toArray s):lp P (loadCells a m) s Q X:=by
 subst hm;exact Lj vs 0 #[] (fun j v K=>by simpa using h j v K) (by simpa using k)
theorem OX{a:Addr}{v:Value}{Q:Value→St→Prop}{X:Halt→St→Prop}(ht:CM P t=some false)(h:s.cell? a=some v)(k:Q v s):lp P (loadVar t a) s Q X:=by
 unfold loadVar;refine AD _ _ (Hs ht ?_);exact M7 h k
theorem Lw{a:Addr}{vs:List Value}{Q:Value→St→Prop}{X:Halt→St→Prop}(ht:CM P t=some true)(K:Bj P t=some vs.length)(h:∀j v,vs[j]? =some v→s.cell? (a.add j)=some v)(k:Q (.agg vs.toArray) s):lp P (loadVar t a) s Q X:=by
 unfold loadVar;refine AD _ _ (Hs ht ?_);show lp P (do let r ← loadCells a (← Go.sizeOf t);pure (Value.agg r)) s Q X
 refine AD (x:=Go.sizeOf t) _ (Di K ?_);refine AD _ _ (Ls rfl h ?_);exact k
end
section
variable {P:Program}{ρ:Operand→Value}{s:St}{x y z:Operand}{d:Option Tmp}{t u ty e:TypeId}{p:String}{af:Array Edge}{g:Option (Nat×Bool)}{v:Value}{kd kd':IntKind}{m m':Int}
theorem Yl.DL{o:Oper}{sm:Sem Value}(K:execOp ρ o=(do pure (Next.value (← sm))))(h:lp P sm s (fun r s'=>r=v∧s'=s) (fun _ _=>False)):Yl P o ρ s v:=by
 unfold Yl;rw [K];exact AD _ _ (Cl _ h (fun r s' ⟨O,U⟩=>⟨by rw [O],U⟩) (fun _ _ h=>h))
theorem Yl.load{a:Addr}(ht:CM P t=some false)(K:ρ x= .pointer (some a))(h:s.cell? a=some v):Yl P ⟨d,.load t x,ty,p,af,g⟩ ρ s v:=
 Yl.DL (sm:=Instr.loadAt t (ρ x)) rfl (by rw [K];exact OX ht h ⟨rfl,rfl⟩)
theorem Yl.Bp{a:Addr}{vs:List Value}(ht:CM P t=some true)(K:Bj P t=some vs.length)(O:ρ x= .pointer (some a))(h:∀j v,vs[j]? =some v→s.cell? (a.add j)=some v):Yl P ⟨d,.load t x,ty,p,af,g⟩ ρ s (.agg vs.toArray):=
 Yl.DL (sm:=Instr.loadAt t (ρ x)) rfl (by rw [O];exact Lw ht K h ⟨rfl,rfl⟩)
theorem Yl.fieldAddr{a:Addr}{K:Array Field}{i:Nat}{fl:Field}{O:Nat}(ht:P.underlying t=some (.struct K))(hi:K[i]? =some fl)(U:Bj P fl.type=some (O+1))(W:ρ x= .pointer (some a)):
  Yl P ⟨d,.fieldAddr t x i,ty,p,af,g⟩ ρ s (.pointer (some (a.add fl.offset))):=
 Yl.DL (sm:=Instr.fieldAt t (ρ x) i) rfl (by
  rw [W];unfold Instr.fieldAt
  refine AD _ _ (Ck ht ?_)
  simp only [hi,Instr.sureAddr,bind,Sem.bind,pure]
  refine AD (x:=fieldPlace a fl) _ ?_
  unfold fieldPlace
  refine AD _ _ (Di U ?_)
  simp only [Nat.add_eq_zero_iff,Nat.succ_ne_self,and_false,if_false,lp,pure]
  exact⟨trivial,trivial⟩)
theorem Yl.HB{a:Addr}{l c K:Nat}(ht:P.underlying t=some (.slice e))(O:Bj P e=some K)(U:ρ x= .slice (some a) l c)(W:ρ y= .int kd m)(h:0≤m∧m<l):
  Yl P ⟨d,.indexAddr t x y,ty,p,af,g⟩ ρ s (.pointer (some (a.add (m.toNat*K)))):=
 Yl.DL (sm:=Instr.indexAt t (ρ x) (ρ y)) rfl (by
  rw [U,W];unfold Instr.indexAt
  simp only [asIntOf,bind,Sem.bind,pure]
  refine AD (x:=underlying t) _ (Ck ht ?_)
  simp only [Sem.bind]
  refine AD (x:=underlying t) _ (Ck ht ?_)
  simp only [Sem.bind,h,and_self,if_true]
  refine AD (x:=Go.sizeOf e) _ (Di O ?_)
  exact⟨rfl,rfl⟩)
theorem Yl.Nn{a:Addr}{l K:Nat}(ht:P.underlying t=some (.array l e))(O:Bj P e=some K)(U:ρ x= .pointer (some a))(W:ρ y= .int kd m)(h:0≤m∧m<l):
  Yl P ⟨d,.indexAddr t x y,ty,p,af,g⟩ ρ s (.pointer (some (a.add (m.toNat*K)))):=
 Yl.DL (sm:=Instr.indexAt t (ρ x) (ρ y)) rfl (by
  rw [U,W];unfold Instr.indexAt
  simp only [asIntOf,bind,Sem.bind,pure]
  refine AD (x:=underlying t) _ (Ck ht ?_)
  simp only [Sem.bind,Instr.sureAddr,pure]
  refine AD (x:=underlying t) _ (Ck ht ?_)
  simp only [Sem.bind,h,and_self,if_true]
  refine AD (x:=Go.sizeOf e) _ (Di O ?_)
  exact⟨rfl,rfl⟩)
end
section
variable {P:Program}{J:Judge P}{Q:Goroutine→St→Prop}{b:Frame}{n:Nat}{L L':Env}{ds:List Deferred}{k:List Item}{cs:List Frame}{E H:LH}{B B':List (Nat×Obj)}
variable {ops:Array Oper}{i:Nat}{rest:List Nat}{d:Option Tmp}{x y:Operand}{t u ty e:TypeId}{p:String}{af:Array Edge}{g:Option (Nat×Bool)}{v:Value}
theorem EX{cells:Array Value}{Q:Addr→St→Prop}{X:Halt→St→Prop}(K:Nd E H B)(k:∀r,Nd E H (B++ [(r,.cells cells e (0,0))])→Q ⟨r,0,none⟩ (mk E H (B++ [(r,.cells cells e (0,0))]))):lp P (newRow e cells) (mk E H B) Q X:=by
 simp only [newRow,newObj,bind,Sem.bind,lp,pure];refine⟨rfl,fun r O U=>?_⟩;obtain⟨W,Z⟩:=GK O U (.cells cells e (0,0)) K;rw [Z];exact k r W
theorem JL.alloc{z:Value}(K:ops[i]? =some ⟨d,.alloc e,ty,p,af,g⟩)(hw:AU L ops ⟨d,.alloc e,ty,p,af,g⟩=some true)(O:BR b n ⟨d,.alloc e,ty,p,af,g⟩=true)(U:Nd E H B)(W:zeroOf P e=some z)
  (h:∀r,Nd E H (B++ [(r,.cells z.cells e (0,0))])→JL J Q b n (AE L d (.pointer (some ⟨r,0,none⟩))) ds (.inRegion ops rest::k) cs (mk E H (B++ [(r,.cells z.cells e (0,0))]))):
  JL J Q b n L ds (.inRegion ops (i::rest)::k) cs (mk E H B):=
 JL.op K hw O fun ρ _=>by
  show lp P (do pure (Next.value (← Instr.alloc e true (.tuple #[])))) _ _ _
  refine AD _ _ ?_
  unfold Instr.alloc
  refine AD _ _ (D9 W ?_)
  refine AD _ _ (EX U fun r Z=>?_)
  exact h r Z
theorem JL.box(K:ops[i]? =some ⟨d,.box e x,ty,p,af,g⟩)(hw:AU L ops ⟨d,.box e x,ty,p,af,g⟩=some true)(O:BR b n ⟨d,.box e x,ty,p,af,g⟩=true)(U:Nd E H B)(W:ev L x=some v)
  (h:∀r,Nd E H (B++ [(r,.cells v.cells e (0,0))])→JL J Q b n (AE L d (.pointer (some ⟨r,0,none⟩))) ds (.inRegion ops rest::k) cs (mk E H (B++ [(r,.cells v.cells e (0,0))]))):
  JL J Q b n L ds (.inRegion ops (i::rest)::k) cs (mk E H B):=
 JL.op K hw O fun ρ Z=>by
  show lp P (do pure (Next.value (← Instr.box e (ρ x)))) _ _ _
  rw [Z x v W]
  refine AD _ _ ?_
  unfold Instr.box
  refine AD _ _ (EX U fun r aa=>?_)
  exact h r aa
def A0(c:Array Value)(off:Nat):List Value→Array Value
 | []=>c
 | v::vs=>A0 (c.setIfInBounds off v) (off+1) vs
theorem JM(c:Array Value)(off:Nat)(vs:List Value):(A0 c off vs).size=c.size:=by
 induction vs generalizing c off with
 | nil=>rfl
 | cons v vs K=>simp [A0,K]
theorem Jz{K:Nat}{Q:Unit→St→Prop}{X:Halt→St→Prop}{pl off:Nat}{sp:Option Nat}:∀(vs:List Value) (j:Nat) (c:Array Value) (B:List (Nat×Obj)),(∀v∈vs,BJ v=true)→Nd E H B→B[pl]? =some (K,.cells c e (0,0))→off+j+vs.length≤c.size→(sp=none∨0<j)→
  (∀B',B'=B.set pl (K,.cells (A0 c (off+j) vs) e (0,0))→Nd E H B'→Q () (mk E H B'))→lp P (storeCells ⟨K,off,sp⟩ vs j) (mk E H B) Q X
 | [],j,c,B,_,U,O,_,_,k=>by
  simp only [storeCells,lp,pure]
  refine k B ?_ U
  simp only [A0]
  exact(List.ext_getElem? fun i=>by
   by_cases hi:pl=i
   ·subst hi
    obtain⟨aa,ab⟩:=List.getElem?_eq_some_iff.1 O
    simp [aa,ab]
   ·simp [hi])
 | v::vs,j,c,B,W,U,O,hle,Z,k=>by
  simp only [storeCells,List.length_cons] at*
  have ae:off+j<c.size:=by omega
  have ag:(Addr.add ⟨K,off,sp⟩ j)=⟨K,off+j,none⟩:=by
   unfold Addr.add;split
   ·rename_i ah;subst ah;rcases Z with rfl | Z
    ·rfl
    ·omega
   ·rfl
  have ai:(cellAt (.cells c e (0,0)) ⟨K,off+j,none⟩).isSome=true:=by simp [cellAt,ae]
  refine AD (x:=store (Addr.add ⟨K,off,sp⟩ j) v) _ ?_;rw [ag];refine⟨rfl,W v (by simp),_,FV U O,ai,by simp [frozenAt],?_⟩;simp only [lp];have aj:Gt (.cells c e (0,0)) ⟨K,off+j,none⟩ v= .cells (c.setIfInBounds (off+j) v) e (0,0):=by simp [Gt]
  rw [aj,Rx U O];have ak:(B.set pl (K,.cells (c.setIfInBounds (off+j) v) e (0,0)))[pl]? =some (K,.cells (c.setIfInBounds (off+j) v) e (0,0)):=by
   have:pl<B.length:=(List.getElem?_eq_some_iff.1 O).1;simp [this]
  refine Jz vs (j+1) _ _ (fun u hu=>W u (List.mem_cons_of_mem _ hu)) (U.set O) ak (by simp;omega) (.inr (by omega)) fun al am an=>k al ?_ an;rw [am,List.set_set];simp only [A0]
  rfl
theorem Ly{K off pl:Nat}{c:Array Value}{Q:Unit→St→Prop}{X:Halt→St→Prop}(O:Bj P t=some v.cells.size)(U:∀u∈v.cells.toList,BJ u=true)(W:Nd E H B)(Z:B[pl]? =some (K,.cells c e (0,0)))(hle:off+v.cells.size≤c.size)
  (k:Nd E H (B.set pl (K,.cells (A0 c off v.cells.toList) e (0,0)))→Q () (mk E H (B.set pl (K,.cells (A0 c off v.cells.toList) e (0,0))))):lp P (storeVar t ⟨K,off,none⟩ v) (mk E H B) Q X:=by
 unfold storeVar;refine AD _ _ (Di O ?_);simp only [ne_eq,not_true_eq_false,if_false];refine Jz v.cells.toList 0 c B U W Z (by simpa using hle) (.inl rfl) fun B' e aa=>?_;subst e;exact k aa
theorem JL.store{K off:Nat}{c:Array Value}(pl:Nat)(U:ops[i]? =some ⟨d,.store t x y,ty,p,af,g⟩)(hw:AU L ops ⟨d,.store t x y,ty,p,af,g⟩=some true)(W:BR b n ⟨d,.store t x y,ty,p,af,g⟩=true)(Z:Nd E H B)
  (aa:ev L x=some (.pointer (some ⟨K,off,none⟩))) (ab:ev L y=some v) (ae:Bj P t=some v.cells.size) (ag:∀u∈v.cells.toList,BJ u=true) (ah:B[pl]? =some (K,.cells c e (0,0))) (hle:off+v.cells.size≤c.size)
  (h:Nd E H (B.set pl (K,.cells (A0 c off v.cells.toList) e (0,0)))→JL J Q b n (AE L d undef) ds (.inRegion ops rest::k) cs (mk E H (B.set pl (K,.cells (A0 c off v.cells.toList) e (0,0))))):
  JL J Q b n L ds (.inRegion ops (i::rest)::k) cs (mk E H B):=
 JL.op U hw W fun ρ O=>by
  show lp P (do Instr.storeAt t (ρ x) (ρ y);pure Next.skip) _ _ _
  rw [O x _ aa,O y _ ab]
  refine AD _ _ ?_
  unfold Instr.storeAt
  simp only [Instr.sureAddr,bind,Sem.bind,pure]
  exact Ly ae ag Z ah hle fun ai=>h ai
end
end Pal
namespace Pal
open Go Go.Conc
def Dc(P:Program)(t:TypeId):Option Nat:=(P.info? t).map (·.bytes)
section
variable {P:Program}{J:Judge P}{Q:Goroutine→St→Prop}{b:Frame}{n:Nat}{L L':Env}{ds:List Deferred}{k:List Item}{cs:List Frame}{E H:LH}{B B':List (Nat×Obj)}{s:St}
variable {ops:Array Oper}{i:Nat}{rest:List Nat}{d:Option Tmp}{x y:Operand}{t u ty e:TypeId}{p:String}{af:Array Edge}{g:Option (Nat×Bool)}{v:Value}
theorem FQ{inf:TypeInfo}{Q:TypeInfo→St→Prop}{X:Halt→St→Prop}(h:P.info? t=some inf)(k:Q inf s):lp P (typeInfo t) s Q X:=by
 simp only [typeInfo,bind,Sem.bind,program,lp,h];exact k
theorem It{K:Nat}(h:Dc P t=some K):∃inf,P.info? t=some inf∧inf.bytes=K:=by
 unfold Dc at h;cases hi:P.info? t with
 | none=>rw [hi] at h;cases h
 | some i=>rw [hi] at h;simp at h;exact⟨i,rfl,h⟩
theorem Fz{β:Type}{z y:Nat}{code:BoundsCode}{f:Nat→Sem β}{K:β→St→Prop}{X:Halt→St→Prop}(W:z≤y)(O:lp P (f z) s K X):lp P (Instr.sliceBound (.int .i64 z) y code>>=f) s K X:=by
 refine AD _ _ ?_;unfold Instr.sliceBound;have U:(0:Int)≤(z:Int)∧(z:Int)≤(y:Int):=⟨by omega,by omega⟩;simp only [asIntOf,bind,Sem.bind,pure];rw [if_pos U];simpa [lp] using O
theorem EV{α β:Type}(a:α)(f:α→Sem β):((pure a:Sem α)>>=f)=f a:=rfl
theorem SN{l c:Nat}{X:Halt→St→Prop}:lp P (Instr.sliceBounds true l c none none none) s (fun r s'=>r=(0,l,c)∧s'=s) X:=by
 unfold Instr.sliceBounds;exact⟨rfl,rfl⟩
theorem SU{l c:Nat}{lo:Nat}(K:lo≤l){X:Halt→St→Prop}:lp P (Instr.sliceBounds true l c (some (.int .i64 lo)) none none) s (fun r s'=>r=(lo,l,c)∧s'=s) X:=by
 simp only [Instr.sliceBounds,if_true,Option.isSome_none,Option.isSome_some,Bool.false_eq_true,if_false,EV];exact Fz K ⟨rfl,rfl⟩
theorem SA{l c:Nat}{hi:Nat}(hh:hi≤c){X:Halt→St→Prop}:lp P (Instr.sliceBounds true l c none (some (.int .i64 hi)) none) s (fun r s'=>r=(0,hi,c)∧s'=s) X:=by
 simp only [Instr.sliceBounds,if_true,Option.isSome_none,Option.isSome_some,Bool.false_eq_true,if_false,EV];exact Fz hh ⟨rfl,rfl⟩
theorem S3{l c:Nat}{lo hi:Nat}(hh:hi≤c)(K:lo≤hi){X:Halt→St→Prop}:lp P (Instr.sliceBounds true l c (some (.int .i64 lo)) (some (.int .i64 hi)) none) s (fun r s'=>r=(lo,hi,c)∧s'=s) X:=by
 have e:Instr.sliceBounds true l c (some (.int .i64 lo)) (some (.int .i64 hi)) none=(Instr.sliceBound (.int .i64 hi) c .sliceAcap>>=fun h=>Instr.sliceBound (.int .i64 lo) h .sliceB>>=fun l=>pure (l,h,c)):=by
  simp [Instr.sliceBounds]
 rw [e];exact Fz hh (Fz K ⟨rfl,rfl⟩)
theorem SZ{l c:Nat}{hi mx:Nat}(hm:mx≤c)(hh:hi≤mx){X:Halt→St→Prop}:lp P (Instr.sliceBounds true l c none (some (.int .i64 hi)) (some (.int .i64 mx))) s (fun r s'=>r=(0,hi,mx)∧s'=s) X:=by
 simp only [Instr.sliceBounds,if_true,Option.isSome_none,Option.isSome_some,Bool.false_eq_true,if_false,EV];exact Fz hm (Fz hh ⟨rfl,rfl⟩)
theorem SS{l c:Nat}{lo hi mx:Nat}(hm:mx≤c)(hh:hi≤mx)(K:lo≤hi){X:Halt→St→Prop}:lp P (Instr.sliceBounds true l c (some (.int .i64 lo)) (some (.int .i64 hi)) (some (.int .i64 mx))) s (fun r s'=>r=(lo,hi,mx)∧s'=s) X:=by
 simp only [Instr.sliceBounds,if_true,Option.isSome_none,Option.isSome_some,Bool.false_eq_true,if_false,EV];exact Fz hm (Fz hh (Fz K ⟨rfl,rfl⟩))
theorem Pt{l c lo hi mx:Nat}{W Z aa:Option Value}{X:Halt→St→Prop}
  (O:match aa with | some w=>w= .int .i64 mx | none=>mx=c) (K:match Z with | some w=>w= .int .i64 hi | none=>hi=l∧aa=none) (U:match W with | some w=>w= .int .i64 lo | none=>lo=0) (hm:mx≤c) (hh:hi≤mx) (ab:lo≤hi):
  lp P (Instr.sliceBounds true l c W Z aa) s (fun r s'=>r=(lo,hi,mx)∧s'=s) X:=by
 cases aa with
 | none=>
  cases Z with
  | none=>
   cases W with
   | none=>obtain rfl:mx=c:=O;obtain rfl:hi=l:=K.1;obtain rfl:lo=0:=U;exact SN
   | some w=>obtain rfl:mx=c:=O;obtain rfl:hi=l:=K.1;obtain rfl:w= .int .i64 lo:=U;exact SU ab
  | some w=>
   cases W with
   | none=>obtain rfl:mx=c:=O;obtain rfl:w= .int .i64 hi:=K;obtain rfl:lo=0:=U;exact SA hh
   | some w'=>obtain rfl:mx=c:=O;obtain rfl:w= .int .i64 hi:=K;obtain rfl:w'= .int .i64 lo:=U;exact S3 hh ab
 | some w0=>
  cases Z with
  | none=>exact absurd K.2 (fun h=>by cases h)
  | some w=>
   cases W with
   | none=>obtain rfl:w0= .int .i64 mx:=O;obtain rfl:w= .int .i64 hi:=K;obtain rfl:lo=0:=U;exact SZ hm hh
   | some w'=>obtain rfl:w0= .int .i64 mx:=O;obtain rfl:w= .int .i64 hi:=K;obtain rfl:w'= .int .i64 lo:=U;exact SS hm hh ab
theorem P7{a:Option Addr}{l c O lo hi mx:Nat}{U W K:Option Value}{Q:Value→St→Prop}{X:Halt→St→Prop}(ht:P.underlying t=some (.slice e))(Z:Bj P e=some O)
  (aa:match K with | some w=>w= .int .i64 mx | none=>mx=c) (ab:match W with | some w=>w= .int .i64 hi | none=>hi=l∧K=none) (ae:match U with | some w=>w= .int .i64 lo | none=>lo=0) (hm:mx≤c) (hh:hi≤mx) (ag:lo≤hi)
  (k:Q (.slice (if mx=lo then a else a.map (·.add (lo*O))) (hi - lo) (mx - lo)) s):lp P (Instr.slice t (.slice a l c) U W K) s Q X:=by
 unfold Instr.slice;refine AD _ _ (Ck ht ?_);have hb:=Pt (P:=P) (s:=s) (X:=X) aa ab ae hm hh ag;refine AD _ _ (Cl _ hb ?_ (fun _ _ h=>h));rintro r s' ⟨rfl,rfl⟩;exact AD _ _ (Di Z k)
theorem Yl.slice{ρ:Operand→Value}{a:Option Addr}{l c O lo hi mx:Nat}{olo ohi omx:Option Operand}(ht:P.underlying t=some (.slice e))(U:Bj P e=some O)(W:ρ x= .slice a l c)
  (Z:match omx with | some w=>ρ w= .int .i64 mx | none=>mx=c) (K:match ohi with | some w=>ρ w= .int .i64 hi | none=>hi=l∧omx=none) (aa:match olo with | some w=>ρ w= .int .i64 lo | none=>lo=0) (hm:mx≤c) (hh:hi≤mx) (ab:lo≤hi):
  Yl P ⟨d,.slice t x olo ohi omx,ty,p,af,g⟩ ρ s (.slice (if mx=lo then a else a.map (·.add (lo*O))) (hi - lo) (mx - lo)):=
 Yl.DL (sm:=Instr.sliceAt t (ρ x) (olo.map ρ) (ohi.map ρ) (omx.map ρ)) rfl (by
  rw [W];unfold Instr.sliceAt
  refine AD _ _ (Ck ht ?_)
  refine P7 ht U (mx:=mx) (hi:=hi) (lo:=lo) ?_ ?_ ?_ hm hh ab ⟨rfl,rfl⟩
  ·cases omx <;> exact Z
  ·cases ohi with
   | none=>exact⟨K.1,by rw [K.2];rfl⟩
   | some w=>exact K
  ·cases olo <;> exact aa)
def Eg(s:St)(v:Value)(K:Nat)(xs:List Value):Prop:=
 match v with
 | .slice (some a) l c=>a.spot=none∧xs.length=l*K∧l≤c∧∀j w,xs[j]? =some w→s.cell? ⟨a.block,a.off+j,none⟩=some w
 | .slice none l _=>l=0∧xs= []
 | _=>False
theorem Bd{a:Addr}(h:a.spot=none)(j:Nat):a.add j=⟨a.block,a.off+j,none⟩:=by
 unfold Addr.add;obtain⟨b,o,sp⟩:=a;simp only at h;subst h;split
 ·rename_i e;subst e;rfl
 ·rfl
theorem GG{K l:Nat}{xs:List Value}{Q:Array Value→St→Prop}{X:Halt→St→Prop}(U:∃a c,v= .slice a l c)(h:Eg s v K xs)(k:Q xs.toArray s):lp P (Builtin.firstCells K l v) s Q X:=by
 obtain⟨a,c,rfl⟩:=U;cases a with
 | none=>
  obtain⟨O,rfl⟩:=h;exact k
 | some a=>
  obtain⟨O,W,ab,Z⟩:=h;exact Ls W.symm (fun j w aa=>by rw [Bd O];exact Z j w aa) k
theorem Pq(nl:Nat):∀(r c:Nat),Builtin.growBy nl r c≤max c (2*nl+768):=by
 intro r
 induction r with
 | zero=>intro c;simp [Builtin.growBy];omega
 | succ r K=>
  intro c;simp only [Builtin.growBy];split
  ·omega
  ·rename_i h;have:=K (c+(c+768) / 4);omega
theorem LC{need old:Nat}(h:old<need):Builtin.nextslicecap need old≤2*need+768:=by
 unfold Builtin.nextslicecap;split
 ·omega
 ·split
  ·omega
  ·have:=Pq need 4 old;omega
theorem Ll(z:Array Value)(m:Nat):(Builtin.zeroCells z m).size=m*z.size:=by simp [Builtin.zeroCells]
def Jh(B:List (Nat×Obj))(pl:Nat)(e:TypeId)(K:Nat)(a:Option Addr)(l c:Nat)(xs:List Value):Prop:=
 (a=none∧l=0∧c=0∧xs= [])∨∃O f,a=some ⟨O,0,none⟩∧B[pl]? =some (O,.cells f e (0,0))∧f.size=c*K∧l≤c∧xs=f.toList.take (l*K)
theorem Lq(c:Array Value)(off:Nat)(vs:List Value)(h:off+vs.length≤c.size):(A0 c off vs).toList.take (off+vs.length)=c.toList.take off++vs:=by
 induction vs generalizing c off with
 | nil=>simp [A0]
 | cons v vs O=>
  simp only [A0,List.length_cons] at*;have:=O (c.setIfInBounds off v) (off+1) (by simp;omega);rw [show off+(vs.length+1)=off+1+vs.length from by omega,this];have K:off<c.toList.length:=by simp;omega
  rw [Array.toList_setIfInBounds,List.take_add_one];have U:(c.toList.set off v)[off]? =some v:=by simp at K;simp [K]
  rw [U];simp [List.take_set_of_le]
theorem Eg.read{K:Nat}{xs:List Value}{a:Addr}{l c:Nat}(h:Eg s (.slice (some a) l c) K xs){j:Nat}{w:Value}(O:xs[j]? =some w):s.cell? (a.add j)=some w:=by
 obtain⟨U,Z,aa,W⟩:=h;rw [Bd U];exact W j w O
theorem JU{ats:Array TypeId}{a:Option Addr}{l c K Z m cx:Nat}{ax:Option Addr}{xs ys:List Value}{z:Value}{Q:Value→St→Prop}{X:Halt→St→Prop}{pl:Nat}
  (aw:ats[0]? =some t) {t1 ay:TypeId} (az:ats[1]? =some t1) (aA:P.underlying t1=some (.slice ay)) (ht:P.underlying t=some (.slice e)) (aB:Bj P e=some K) (hb:Dc P e=some Z) (aC:zeroOf P e=some z) (aD:z.cells.size=K)
  (aj:Nd E H B) (hs:Jh B pl e K a l c xs)
  (ah:Eg (mk E H B) (.slice ax m cx) K ys) (aE:∀w∈ys,BJ w=true) (aP:0<Z) (aQ:l+m≤2 ^ 40) (aF:Z≤64)
  (aG:∀O f U,a=some ⟨O,0,none⟩→B[pl]? =some (O,.cells f e (0,0))→U=A0 f (l*K) ys→l+m≤c→U.size=c*K→U.toList.take ((l+m)*K)=xs++ys→Nd E H (B.set pl (O,.cells U e (0,0)))→Q (.slice a (l+m) c) (mk E H (B.set pl (O,.cells U e (0,0)))))
  (aH:a=none→m=0→Q (.slice none 0 0) (mk E H B))
  (aI:∀r U aa,l+m≤aa→U.size=aa*K→U.toList.take ((l+m)*K)=xs++ys→Nd E H (B++ [(r,.cells U e (0,0))])→Q (.slice (some ⟨r,0,none⟩) (l+m) aa) (mk E H (B++ [(r,.cells U e (0,0))]))):
  lp P (Builtin.append_ ats ty #[.slice a l c,.slice ax m cx]) (mk E H B) Q X:=by
 unfold Builtin.append_;simp only [aw,az,List.getElem?_toArray,List.getElem?_cons_zero,List.getElem?_cons_succ];refine AD _ _ (Ck ht ?_);refine AD _ _ (Di aB ?_);refine AD _ _ (Ck aA ?_);simp only [EV,Bool.false_eq_true,if_false,Builtin.lenOf,Bool.not_false,if_true];have ab:ys.length=m*K:=by
  cases ax with
  | none=>obtain⟨ak,al⟩:=ah;subst ak al;simp
  | some ad=>exact ah.2.1
 have am:∃(aJ:Option Addr) (aa:Nat),Eg (mk E H B) (.slice a l c) K xs∧aJ=a∧aa=c:=by
  refine⟨a,c,?_,rfl,rfl⟩;rcases hs with⟨rfl,rfl,rfl,rfl⟩ | ⟨O,f,rfl,ae,W,ag,rfl⟩
  ·exact⟨rfl,rfl⟩
  ·have hle:l*K≤f.size:=by rw [W];exact Nat.mul_le_mul_right _ ag
   refine⟨rfl,by simp [Nat.min_eq_left hle],ag,fun j w ai=>?_⟩;refine Mi aj ae ?_;simp only [Nat.zero_add];rw [List.getElem?_take] at ai;split at ai
   ·simpa using ai
   ·cases ai
 obtain⟨_,_,am,_,_⟩:=am;have an:xs.length=l*K:=by
  rcases hs with⟨rfl,rfl,rfl,rfl⟩ | ⟨O,f,rfl,ae,W,ag,rfl⟩
  ·simp
  ·have hle:l*K≤f.size:=by rw [W];exact Nat.mul_le_mul_right _ ag
   simp [Nat.min_eq_left hle]
 split
 ·rename_i au;refine AD _ _ (GG ⟨ax,cx,rfl⟩ ah ?_);rcases hs with⟨rfl,rfl,rfl,rfl⟩ | ⟨O,f,rfl,ae,W,ag,rfl⟩
  ·obtain rfl:m=0:=by omega
   simp only;exact aH rfl rfl
  ·simp only;have hle:l*K+ys.length≤f.size:=by rw [ab,W,← Nat.add_mul];exact Nat.mul_le_mul_right _ au
   have aK:(Addr.add ⟨O,0,none⟩ (l*K))=⟨O,l*K,none⟩:=by rw [Bd rfl];simp
   rw [aK];refine AD _ _ (Jz (pl:=pl) ys.toArray.toList 0 f B (by simpa using aE) aj ae (by simpa using hle) (.inl rfl) fun B' av ao=>?_);simp only [Nat.add_zero] at av;subst av;refine aG O f _ rfl ae rfl au (by rw [JM,W]) ?_ ao;have:=Lq f (l*K) ys hle;rw [ab,← Nat.add_mul] at this;exact this
 ·rename_i aR;have ak:¬(((l+m:Nat):Int)>IntKind.i64.max∧(False∨Z=0)):=by rintro⟨_,h | h⟩ <;> omega
  have al:¬(Builtin.nextslicecap (l+m) c*Z>2 ^ 48):=by
   have:=LC (need:=l+m) (old:=c) (by omega);have aS:Builtin.nextslicecap (l+m) c*Z≤(2*(l+m)+768)*64:=Nat.mul_le_mul this aF;omega
  obtain⟨inf,ap,aq⟩:=It hb;refine AD _ _ (FQ ap ?_);rw [aq,if_neg ak];refine AD _ _ (FQ ap ?_);rw [aq,if_neg al];refine AD _ _ ?_;simp only [choose,lp,Question.forced,Bool.false_eq_true,if_false];refine⟨rfl,fun aL=>?_⟩;generalize aM:(Question.appendCap (l+m) c e).cut aL=ar;have aN:l+m≤ar:=by rw [← aM];simp [Question.cut]
  refine AD _ _ (FQ ap ?_);rw [aq];have aO:∀{α:Type} {f:Unit→Sem α} {Q:α→St→Prop},lp P (f ()) (mk E H B) Q X→lp P (askRoom (ar*Z)>>=f) (mk E H B) Q X:=by
   intro α f Q W;refine AD _ _ ?_;unfold askRoom;split
   ·exact⟨.inl ⟨rfl,rfl⟩,W⟩
   ·exact W
  refine aO ?_;refine AD _ _ (GG ⟨a,c,rfl⟩ am ?_);refine AD _ _ (GG ⟨ax,cx,rfl⟩ ah ?_);refine AD _ _ (D9 aC ?_);refine AD _ _ (EX aj fun r ao=>?_);refine aI r _ ar aN ?_ ?_ ao
  ·simp only [Array.size_append,List.size_toArray,Ll,aD,an,ab];rw [← Nat.add_mul,← Nat.add_mul];congr 1;omega
  ·simp only [Array.toList_append];rw [List.take_append_of_le_length (by simp [an,ab,Nat.add_mul])];rw [List.take_of_length_le (by simp [an,ab,Nat.add_mul])]
end
end Pal
namespace Pal
open Go Go.Conc
theorem Js{P:Program}{α:Type}(x:Sem α):∀{s:St} {Q:α→St→Prop} {X:Halt→St→Prop},lp P x s Q X→lp P x s (fun a s'=>Q a s'∧s'.E=s.E∧s'.q=s.q) X:=by
 induction x with
 | pure a=>intro s Q X h;exact⟨h,rfl,rfl⟩
 | load m a k K=>intro s Q X h;obtain⟨O,v,U,W⟩:=h;exact⟨O,v,U,K _ W⟩
 | store m a v k K=>intro s Q X h;obtain⟨O,U,o,W,aa,ab,ae⟩:=h;exact⟨O,U,o,W,aa,ab,K ae⟩
 | new o k K=>intro s Q X h;exact⟨h.1,fun r O U=>K _ (h.2 r O U)⟩
 | shape r k K=>intro s Q X h;obtain⟨o,O,U⟩:=h;exact⟨o,O,K _ U⟩
 | freeze a n k K=>intro s Q X h;exact h
 | frozen a k K=>intro s Q X h;obtain⟨o,O,U⟩:=h;exact⟨o,O,K _ U⟩
 | getObj r k K=>intro s Q X h;obtain⟨o,O,U,W⟩:=h;exact⟨o,O,U,K _ W⟩
 | setObj r o k K=>intro s Q X h;obtain⟨O,U,W⟩:=h;exact⟨O,U,K W⟩
 | choose q k K=>
  intro s Q X h;simp only [lp] at h ⊢;split
  ·rename_i Z;rw [if_pos Z] at h;exact K _ h
  ·rename_i Z;rw [if_neg Z] at h;exact⟨h.1,fun t=>K _ (h.2 t)⟩
 | sys c k K=>intro s Q X h;exact h
 | program k K=>intro s Q X h;exact K _ h
 | mark m k K=>intro s Q X h;exact⟨h.1,K h.2⟩
 | halt h=>intro s Q X h;exact h
def Bg(D:Nat→Bool)(s:St):St:=⟨fun b=>if D b then s.get b else s.E b,fun b=>if D b then none else s.H b,s.q⟩
def BP(D:Nat→Bool)(s s':St):St:=⟨fun b=>if D b then s.E b else s'.E b,fun b=>if D b then s.H b else s'.H b,s'.q⟩
theorem Hp(D:Nat→Bool)(s:St):BP D s (Bg D s)=s:=by
 obtain⟨E,H,q⟩:=s;unfold BP Bg;congr 1
 ·funext b;by_cases h:D b <;> simp [h]
 ·funext b;by_cases h:D b <;> simp [h]
theorem P6{D:Nat→Bool}{s:St}{w:World}(f:Fits s w):Fits (Bg D s) w where
 e b o h:=by
  by_cases K:D b
  ·simp [Bg,K] at h;exact f.get h
  ·simp [Bg,K] at h;exact f.e b o h
 h b o h:=by
  by_cases K:D b
  ·simp [Bg,K] at h
  ·simp [Bg,K] at h;exact f.h b o h
 d b h:=by
  by_cases K:D b
  ·simp [Bg,K]
  ·simp [Bg,K] at h ⊢;exact f.d b h
def Cz{P:Program}(J:Judge P)(f:FuncId)(args:Array Value)(s:St)(R:Value→St→Prop):Prop:=
 ∀(Q:Goroutine→St→Prop) (c:Frame) (cs:List Frame),(∀v s',R v s'→J.ok Q (G (c.finish v) cs) s')→J.ok Q (G (Frame.enter P f args .normal) (c::cs)) s
theorem Cz.mono{P:Program}{J:Judge P}{f:FuncId}{args:Array Value}{s:St}{R K:Value→St→Prop}(h:Cz J f args s R)(O:∀v s',R v s'→K v s'):Cz J f args s K:=
 fun Q c cs U=>h Q c cs fun v s' W=>U v s' (O v s' W)
section
variable {P:Program}{J:Judge P}{Q:Goroutine→St→Prop}{b:Frame}{n:Nat}{L L':Env}{ds:List Deferred}{k:List Item}{cs:List Frame}{s s':St}
theorem Judge.MW(D:Nat→Bool){T:Array Value}{ops:Array Oper}{i:Nat}{rest:List Nat}{o:Oper}(Z:ops[i]? =some o)(hw:Region.wanted o (yielded ops T)=true)(av:b.kind≠ .early)
  (aw:∀c,o.op≠ .defer c) (ay:s.q=false)
  (h:lp P (execOp (Bf T) o) (Bg D s) (fun nx s'=>upon J Q b T ds ops i rest k cs o.dst nx (BP D s s')) (fun _ _=>False)):
  J.ok Q (G (fr b T ds (.inRegion ops (i::rest)::k)) cs) s:=by
 refine J.step ⟨rfl,fun w f=>?_,fun e=>by subst e;cases ay⟩;have aa:((fr b T ds (.inRegion ops (i::rest)::k)).kind==CallKind.early)=false:=by simpa [fr] using av
 have az:stepG P J.main (G (fr b T ds (.inRegion ops (i::rest)::k)) cs) w=stepG.apply P true (fr b T ds (.inRegion ops (i::rest)::k)) cs none (execOp (Bf T) o) w:=by
  rw [stepG_op Z hw];split
  ·rename_i l c aH aA;exact absurd aA (aw c)
  ·rfl
 obtain⟨ab,ai,aj,aB,O⟩:=IA _ (Js _ h) (P6 (D:=D) f);have ak:=Ke (P:=P) (fn:=b.fn) aB;have ao:=fun v=>D1 (b:=b) (ds:=ds) (k:=k) T ops i rest v o Z;have key:∀w',Fits ab w'→Fr (Bg D s) w ab w'→ab.E=(Bg D s).E→Fits (BP D s ab) w'∧Fr s w (BP D s ab) w':=by
  intro w' al U aC;have ap:∀b,D b=true→b<w.heap.size→w'.heap[b]? =w.heap[b]? :=fun b hb am=>U.keep b am (by simp [Bg,hb]);have aq:∀b o,(s.H b=some o∨s.E b=some o)→b<w.heap.size:=fun b o Z=>by
   have:=Z.elim (f.h b o) (f.e b o);rcases Nat.lt_or_ge b w.heap.size with an | an
   ·exact an
   ·simp [Array.getElem?_eq_none an] at this
  refine⟨⟨fun b o hb=>?_,fun b o hb=>?_,fun b hb=>?_⟩,⟨U.size,fun b am hb=>?_,fun b hb=>?_,fun b o hb=>?_,fun b hb=>?_,U.tape,U.os,U.output⟩⟩
  ·by_cases K:D b
   ·simp [BP,K] at hb;rw [ap b K (aq b o (.inr hb))];exact f.e b o hb
   ·simp [BP,K] at hb;exact al.e b o hb
  ·by_cases K:D b
   ·simp [BP,K] at hb;rw [ap b K (aq b o (.inl hb))];exact f.h b o hb
   ·simp [BP,K] at hb;exact al.h b o hb
  ·by_cases K:D b
   ·simp [BP,K] at hb ⊢;exact f.d b hb
   ·simp [BP,K] at hb ⊢;exact al.d b hb
  ·exact U.keep b am (by by_cases K:D b <;> simp [Bg,K,hb])
  ·by_cases K:D b
   ·simp [BP,K] at hb;exact .inl hb
   ·simp [BP,K] at hb;rcases U.own b hb with q | q
    ·left;simpa [Bg,K] using q
    ·exact .inr q
  ·by_cases K:D b
   ·simp [BP,K];exact hb
   ·simp only [BP,K,Bool.false_eq_true,if_false];rw [aC];simp [Bg,K,hb]
  ·by_cases K:D b
   ·simp [BP,K] at hb;exact .inl hb
   ·simp [BP,K] at hb;rcases U.CW b hb with q | q | q
    ·left;simpa [Bg,K] using q
    ·right;left;simpa [Bg,K] using q
    ·exact .inr (.inr q)
 have aD:∀w',(∀e∈seen P b.fn ((execOp (Bf T) o).events P w #[]),Ev (Bg D s) w w' e)→∀e∈seen P b.fn ((execOp (Bf T) o).events P w #[]),Ev s w w' e:=by
  intro w' he e hm;have:=he e hm;have ar:∀{b wr},D2 (Bg D s) w w' b wr→D2 s w w' b wr:=by
   intro b wr ht;refine⟨ht.1,?_⟩;rcases ht.2 with q | q | ⟨q,au⟩
   ·left;by_cases K:D b <;> simp [Bg,K] at q;exact q
   ·exact .inr (.inl q)
   ·by_cases K:D b
    ·simp [Bg,K,St.get] at q;by_cases ah:s.E b=none
     ·left;intro aE;rw [ah,aE] at q;exact q rfl
     ·exact .inr (.inr ⟨ah,au⟩)
    ·simp [Bg,K] at q;exact .inr (.inr ⟨q,au⟩)
  unfold Ev at this ⊢;split <;> rename_i aF <;> simp only [aF] at this
  ·exact⟨this.1,ar this.2⟩
  ·exact⟨this.1,ar this.2⟩
  ·trivial
  ·trivial
 rw [az];cases W:(execOp (Bf T) o).run P w with
 | ok nx w'=>
  rw [W] at ai aj O ak;simp only [GA] at ai aj ak;obtain⟨O,ah,_⟩:=O;obtain⟨k1,ae⟩:=key w' ai aj ah;have ag:=aD w' ak;cases nx with
  | value v=>exact⟨_,_,w',seen P b.fn ((execOp (Bf T) o).events P w #[])++ #[],by simp [stepG.apply,W,aa,GStep.after,G,ao,Dl],O,k1,ae,by simpa using ag⟩
  | skip=>exact⟨_,_,w',seen P b.fn ((execOp (Bf T) o).events P w #[])++ #[],by simp [stepG.apply,W,aa,GStep.after,G,ao,Dl],O,k1,ae,by simpa using ag⟩
  | enter g args=>exact⟨_,_,w',seen P b.fn ((execOp (Bf T) o).events P w #[])++ #[],by simp [stepG.apply,W,aa,GStep.after,G,Dl,EG],O,k1,ae,by simpa using ag⟩
  | round l g aI as aJ=>exact⟨_,_,w',seen P b.fn ((execOp (Bf T) o).events P w #[])++ #[],by simp [stepG.apply,W,aa,GStep.after,G,Dl,EG],O,k1,ae,by simpa using ag⟩
  | defer d=>
   have aG:=D1 (b:=b) (ds:=d::ds) (k:=k) T ops i rest undef o Z;exact⟨_,_,w',seen P b.fn ((execOp (Bf T) o).events P w #[])++ #[],by
    rw [← aG];simp [stepG.apply,W,aa,GStep.after,G,Dl,EG];rfl,O,k1,ae,by simpa using ag⟩
  | _=>exact O.elim
 | halt x w'=>rw [W] at O;exact O.elim
end
end Pal
namespace Pal
open Go Go.Conc
def NW(m:Nat)(listed:Array Bool):Bool:=(List.range m).all fun i=>listed.getD i false
def AX(listed:Array Bool)(i:Nat):Array Bool:=listed.setIfInBounds i true
section
variable {P:Program}(J:Judge P)(Q:Goroutine→St→Prop)(b:Frame)(ds:List Deferred)(ops:Array Oper)(k:List Item)(cs:List Frame)(m:Nat)(D:Nat→Bool)
def JA:Nat→Array Bool→Array Value→St→Prop
 | 0,listed,T,s=>Region.ready .any ops listed= []∧J.ok Q (G (fr b T ds (.inRegion ops []::k)) cs) s
 | fuel+1,listed,T,s=>
  (NW m listed=true∧∀t,J.ok Q (G (fr b T ds (.inRegion ops (Region.linearise.go .any ops (fuel+1) t listed [])::k)) cs) s)∨
  (Region.ready .any ops listed≠ []∧s.q=false∧∀i∈Region.ready .any ops listed,∀o,ops[i]? =some o→(∀c,o.op≠ .defer c)∧
   (Region.wanted o (yielded ops T)=false→JA fuel (AX listed i) (BQ T o.dst undef) s)∧
   (Region.wanted o (yielded ops T)=true→lp P (execOp (Bf T) o) (Bg D s) (fun nx s'=>match nx with
    | .value v=>JA fuel (AX listed i) (BQ T o.dst v) (BP D s s')
    | .skip=>JA fuel (AX listed i) (BQ T o.dst undef) (BP D s s')
    | .enter f args=>∃R,Cz J f args (BP D s s') R∧∀v K,R v K→K.q=false∧(∀x o,(Bg D s).E x=some o→(Bg D K).E x=some o)∧JA fuel (AX listed i) (BQ T o.dst v) K
    | _=>False) (fun _ _=>False)))
variable {J Q b ds ops k cs m D}
theorem JA.sound(Z:b.kind≠ .early):∀(fuel t:Nat) (listed:Array Bool) (T:Array Value) (s:St),JA J Q b ds ops k cs m D fuel listed T s→
  J.ok Q (G (fr b T ds (.inRegion ops (Region.linearise.go .any ops fuel t listed [])::k)) cs) s:=by
 intro fuel
 induction fuel with
 | zero=>intro t listed T s h;simpa [Region.linearise.go] using h.2
 | succ fuel K=>
  intro t listed T s h;rcases h with⟨_,h⟩ | ⟨aa,ab,h⟩
  ·exact h t
  ·obtain⟨i,hi⟩:∃i,(Region.ready .any ops listed)[t % (Region.ready .any ops listed).length]? =some i:=by
    have:0<(Region.ready .any ops listed).length:=List.length_pos_iff.2 aa;exact⟨_,List.getElem?_eq_getElem (Nat.mod_lt _ this)⟩
   have W:=List.mem_of_getElem? hi;have hgo:Region.linearise.go .any ops (fuel+1) t listed []=i::Region.linearise.go .any ops fuel (t / (Region.ready .any ops listed).length) (AX listed i) []:=by
    simp only [Region.linearise.go];change (match(Region.ready .any ops listed)[t % (Region.ready .any ops listed).length]? with
     | some i=>Region.linearise.go .any ops fuel (t / (Region.ready .any ops listed).length) (listed.setIfInBounds i true) [i]
     | none=> [].reverse)=_
    rw [hi];simp only;rw [linearise_go_acc];rfl
   rw [hgo];obtain⟨_,o,O,_⟩:=mem_ready.1 W;obtain⟨ae,ag,ah⟩:=h i W o O;cases hw:Region.wanted o (yielded ops T) with
   | false=>exact Judge.unwanted O hw (K _ _ _ _ (ag hw))
   | true=>
    refine Judge.MW D O hw Z ae ab (Cl _ (ah hw) ?_ (fun _ _ h=>h));intro nx s' U;cases nx with
    | value v=>exact K _ _ _ _ U
    | skip=>exact K _ _ _ _ U
    | enter f args=>
     obtain⟨R,ai,aj⟩:=U;refine ai Q _ cs fun v ak al=>?_;rw [D1 _ _ _ _ _ _ O];exact K _ _ _ _ (aj v ak al).2.2
    | _=>exact U.elim
theorem Q1{T:Array Value}{d:Option Tmp}{v:Value}{x:Operand}(h:∀t,d=some t→x≠ .tmp t):Bf (BQ T d v) x=Bf T x:=by
 cases d with
 | none=>rfl
 | some t=>
  cases x with
  | tmp u=>
   have K:t≠u:=fun e=>h t rfl (e▸rfl);simp only [BQ,Bf,Array.getD_eq_getD_getElem?,Array.getElem?_setIfInBounds_ne K]
  | _=>rfl
theorem EF{T:Array Value}{d:Option Tmp}{v:Value}{o:Oper}(hs:∀cs b,o.op≠ .select cs b)(h:∀t,d=some t→t ∉ o.looksAt ops):
  execOp (Bf (BQ T d v)) o=execOp (Bf T) o∧Region.wanted o (yielded ops (BQ T d v))=Region.wanted o (yielded ops T):=by
 refine⟨execOp_congr o hs fun x K=>Q1 fun t ht O=>h t ht ?_,?_⟩
 ·subst O;exact List.mem_append_left _ (List.mem_filterMap.2 ⟨.tmp t,by simpa using K,rfl⟩)
 ·have:=wanted_put (ops:=ops) o (⟨T,[]⟩:Act) d v h
  rwa [act_put'] at this
 where
  act_put' {T : Array Value} {d : Option Tmp} {v : Value} : (⟨T, []⟩ : Act).put d v = ⟨BQ T d v, []⟩ := by cases d <;> rfl
theorem Fy{T:Array Value}{d e:Option Tmp}{v u:Value}(h:∀t,d=some t→e≠some t):BQ (BQ T d v) e u=BQ (BQ T e u) d v:=by
 cases d with
 | none=>rfl
 | some t=>
  cases e with
  | none=>rfl
  | some K=>
   have O:t≠K:=fun q=>h t rfl (q▸rfl);simp [BQ,Array.setIfInBounds_comm _ _ O]
theorem Lx{D:Nat→Bool}{s s':St}(K:s'.E=(Bg D s).E):(Bg D (BP D s s')).E=(Bg D s).E:=by
 funext x;by_cases h:D x
 ·simp [Bg,BP,h,St.get]
 ·have:=congrFun K x;simp [Bg,h] at this;simp [Bg,BP,h,this]
def FF(ops:Array Oper)(listed:Array Bool)(i:Nat)(oi:Oper):Bool:=
 (List.range ops.size).all fun j=>j==i || listed.getD j true || match ops[j]? with
  | some K=>(K.after.any fun e=>Region.binds .any e&&e.on==i) || oi.apart ops K
  | none=>true
def waits(ops:Array Oper):Nat→Nat→Nat→Bool
 | 0,_,_=>false
 | f+1,j,i=>match ops[j]? with
  | some K=>K.after.any fun e=>Region.binds .any e&&(e.on==i || waits ops f e.on i)
  | none=>true
def Du(ops:Array Oper)(m:Nat):Bool:=
 (List.range ops.size).all fun j=>decide (j<m) || (List.range m).all fun i=>waits ops ops.size j i
def EI(ops:Array Oper)(listed:Array Bool):Bool:=
 (List.range ops.size).all fun j=> !listed.getD j false || match ops[j]? with
  | some K=>K.after.all fun e=> !Region.binds .any e || listed.getD e.on false
  | none=>true
theorem JF{listed:Array Bool}(h:EI ops listed=true){j:Nat}{K:Oper}(O:ops[j]? =some K)(U:listed.getD j false=true):∀e∈K.after,Region.binds .any e=true→listed.getD e.on false=true:=by
 intro e he hb;have:=List.all_eq_true.1 h j (List.mem_range.2 (Array.getElem?_eq_some_iff.1 O).1);rw [U,O] at this;simp only [Bool.not_true,Bool.false_or] at this;have:=Array.all_eq_true'.1 this e he;rw [hb] at this;simpa using this
theorem Ln{listed:Array Bool}(Z:EI ops listed=true){i:Nat}:∀(f j:Nat) (O:Oper),ops[j]? =some O→(∀e∈O.after,Region.binds .any e=true→listed.getD e.on false=true)→waits ops f j i=true→listed.getD i false=true∨∃x,ops[x]? =none∧listed.getD x false=true:=by
 intro f
 induction f with
 | zero=>intro j O _ _ h;cases h
 | succ f aa=>
  intro j O ab ae h;simp only [waits,ab] at h;obtain⟨e,he,K⟩:=Array.any_eq_true'.1 h;simp only [Bool.and_eq_true,Bool.or_eq_true,beq_iff_eq] at K;obtain⟨hb,K⟩:=K;have U:=ae e he hb;rcases K with rfl | K
  ·exact .inl U
  ·cases W:ops[e.on]? with
   | none=>exact .inr ⟨_,W,U⟩
   | some o=>exact aa e.on o W (fun ag ah ai=>JF Z W U ag ah ai) K
theorem JA.take{i:Nat}{oi:Oper}{w:Bool}{v:Value}(hi:ops[i]? =some oi)(aU:i<m)(aV:Du ops m=true)(aW:Region.noSelect ops=true)(aX:∀c,oi.op≠ .defer c):
  ∀(fuel:Nat) (listed:Array Bool) (T:Array Value) (s:St),FF ops listed i oi=true→EI ops listed=true→listed.size=ops.size→i∈Region.ready .any ops listed→s.q=false→Region.wanted oi (yielded ops T)=w→
   (w=true→∀s',s'.q=false→(∀x o,(Bg D s).E x=some o→s'.E x=some o)→Yl P oi (Bf T) s' v)→
   JA J Q b ds ops k cs m D fuel (AX listed i) (BQ T oi.dst (if w then v else undef)) s→JA J Q b ds ops k cs m D (fuel+1) listed T s:=by
 have ai:∀(j:Nat) (Z:Oper),ops[j]? =some Z→∀cs b,Z.op≠Op.select cs b:=fun j Z h cs b=>Region.noSelect_spec aW j Z cs b h;intro fuel
 induction fuel with
 | zero=>?_
 | succ fuel an=>?_
 all_goals
  intro listed T s aI aJ aj ao ap hw ak h;refine .inr ⟨fun e=>(by rw [e] at ao;cases ao),ap,fun j aK Z O=>?_⟩;by_cases ah:j=i
  ·subst ah;obtain rfl:Z=oi:=by rw [hi] at O;exact(Option.some.inj O).symm
   refine⟨aX,fun aA=>?_,fun aB=>?_⟩
   ·rw [aA] at hw;subst hw;exact h
   ·rw [aB] at hw;subst hw;refine Cl _ (ak rfl (Bg D s) ap fun _ _ h=>h).out ?_ (fun _ _ h=>h);rintro nx s' ⟨rfl,rfl⟩;rw [Hp];exact h
  ·
   have aL:j∈Region.ready .any ops (AX listed i):=ready_mono aK ah;obtain⟨aa,U,aM,aC⟩:=mem_ready.1 aK;obtain rfl:U=Z:=by rw [O] at aM;exact(Option.some.inj aM).symm
   have aD:=(mem_ready.1 ao).1;have aY:(U.after.any fun e=>Region.binds .any e&&e.on==i)=false:=by
    rw [Array.any_eq_false];intro e he K;simp only [Bool.and_eq_true,beq_iff_eq] at K;have:=aC _ (Array.getElem_mem he) K.1;rw [K.2] at this;have W:listed.getD i true=listed.getD i false∨listed.size≤i:=by
     rcases Nat.lt_or_ge i listed.size with q | q
     ·left;simp [Array.getD_eq_getD_getElem?,q]
     ·exact .inr q
    rcases W with W | W
    ·rw [aD,this] at W;cases W
    ·rw [Array.getD_eq_getD_getElem?,Array.getElem?_eq_none W] at this;simp at this
   have aZ:oi.apart ops U=true:=by
    have al:j<ops.size:=(Array.getElem?_eq_some_iff.1 O).1;have:=List.all_eq_true.1 aI j (List.mem_range.2 al);simp only [Bool.or_eq_true,beq_iff_eq] at this;rcases this with(q | q) | q
    ·exact absurd q ah
    ·rw [aa] at q;cases q
    ·rw [O] at q;simp only [Bool.or_eq_true] at q;rw [aY] at q;exact q.resolve_left (by simp)
   obtain⟨a0,aq,ar⟩:=Oper.apart_spec aZ;obtain⟨p1,p2⟩:=EF (ops:=ops) (T:=T) (v:=if w then v else undef) (ai j U O) a0
   first
    | exact absurd aL (by rw [h.1];simp)
    | (
     rcases h with⟨a1,_⟩ | ⟨bf,_,h⟩
     ·
      exfalso
      have a2:¬j<m:=by
       intro al
       have:=List.all_eq_true.1 a1 j (List.mem_range.2 al)
       have ab:(AX listed i).getD j false=listed.getD j false:=getD_set_ne false (Ne.symm ah)
       rw [ab] at this
       have W:listed.getD j true=true:=by
        rcases Nat.lt_or_ge j listed.size with q | q
        ·simp [Array.getD_eq_getD_getElem?,q] at this ⊢;exact this
        ·simp [Array.getD_eq_getD_getElem?,Array.getElem?_eq_none q] at this
       rw [aa] at W;cases W
      have al:j<ops.size:=(Array.getElem?_eq_some_iff.1 O).1
      have:=List.all_eq_true.1 aV j (List.mem_range.2 al)
      simp only [Bool.or_eq_true,decide_eq_true_eq] at this
      have:=List.all_eq_true.1 (this.resolve_left a2) i (List.mem_range.2 aU)
      rcases Ln aJ _ j U O (fun e he hb=>aC e he hb) this with q | ⟨x,q1,q2⟩
      ·have a3:i<listed.size:=by rw [aj];exact(Array.getElem?_eq_some_iff.1 hi).1
       simp [Array.getD_eq_getD_getElem?,a3] at q aD
       rw [aD] at q;cases q
      ·have:¬x<listed.size:=by rw [aj];intro K;simp [K] at q1
       simp [Array.getD_eq_getD_getElem?,this] at q2
     ·obtain⟨a4,aA,aB⟩:=h j aL U O
      have au:AX (AX listed i) j=AX (AX listed j) i:=by
       unfold AX;exact Array.setIfInBounds_comm _ _ (Ne.symm ah)
      have av:i∈Region.ready .any ops (AX listed j):=ready_mono ao (Ne.symm ah)
      have aw:FF ops (AX listed j) i oi=true:=by
       refine List.all_eq_true.2 fun x K=>?_
       have:=List.all_eq_true.1 aI x K
       simp only [Bool.or_eq_true,beq_iff_eq] at this ⊢
       rcases this with(q | q) | q
       ·exact .inl (.inl q)
       ·left;right
        by_cases e:j=x
        ·subst e;rw [aa] at q;cases q
        ·rw [AX,getD_set_ne true e];exact q
       ·exact .inr q
      have ay:(AX listed j).size=ops.size:=by unfold AX;simpa using aj
      have az:EI ops (AX listed j)=true:=by
       refine List.all_eq_true.2 fun x K=>?_
       cases aE:ops[x]? with
       | none=>simp
       | some a5=>
        simp only [Bool.or_eq_true,Bool.not_eq_true']
        by_cases e:j=x
        ·subst e
         obtain rfl:a5=U:=by rw [O] at aE;exact(Option.some.inj aE).symm
         right
         refine Array.all_eq_true'.2 fun e he=>?_
         cases hb:Region.binds .any e with
         | false=>simp
         | true=>
          have:=aC e he hb
          by_cases ab:j=e.on
          ·rw [← ab] at this
           have aF:j<listed.size:=by rw [aj];exact(Array.getElem?_eq_some_iff.1 O).1
           simp [Array.getD_eq_getD_getElem?,aF] at this aa
           rw [aa] at this;cases this
          ·rw [AX,getD_set_ne false ab];simpa using this
        ·cases aN:(AX listed j).getD x false with
         | false=>exact .inl rfl
         | true=>
          right
          have a6:listed.getD x false=true:=by rw [AX,getD_set_ne false e] at aN;exact aN
          refine Array.all_eq_true'.2 fun aG he=>?_
          cases hb:Region.binds .any aG with
          | false=>simp
          | true=>
           have:=JF aJ aE a6 aG he hb
           by_cases ab:j=aG.on
           ·rw [← ab] at this
            have aF:j<listed.size:=by rw [aj];exact(Array.getElem?_eq_some_iff.1 O).1
            simp [Array.getD_eq_getD_getElem?,aF] at this aa
            rw [aa] at this;cases this
           ·rw [AX,getD_set_ne false ab];simpa using this
      refine⟨a4,fun a7=>?_,fun a8=>?_⟩
      ·have:=aA (by rw [p2];exact a7)
       rw [au,Fy aq] at this
       obtain⟨q1,q2⟩:=EF (ops:=ops) (T:=T) (d:=U.dst) (v:=undef) (o:=oi) (ai i oi hi) ar
       exact an _ _ _ aw az ay av ap (by rw [q2];exact hw) (fun ae s' a9 aH=>by unfold Yl;rw [q1];exact(ak ae s' a9 aH).out) this
      ·have aO:=Js _ (aB (by rw [p2];exact a8))
       rw [p1] at aO
       refine Cl _ aO ?_ (fun _ _ h=>h)
       rintro nx s' ⟨K,aH,ba⟩
       have aP:=Lx (D:=D) aH
       have aQ:(BP D s s').q=false:=by show s'.q=false;rw [ba];exact ap
       cases nx with
       | value u=>
        simp only at K ⊢
        rw [au,Fy aq] at K
        obtain⟨q1,q2⟩:=EF (ops:=ops) (T:=T) (d:=U.dst) (v:=u) (o:=oi) (ai i oi hi) ar
        exact an _ _ _ aw az ay av aQ (by rw [q2];exact hw) (fun ae s2 am ag=>by unfold Yl;rw [q1];exact(ak ae s2 am (by rw [aP] at ag;exact ag)).out) K
       | skip=>
        simp only at K ⊢
        rw [au,Fy aq] at K
        obtain⟨q1,q2⟩:=EF (ops:=ops) (T:=T) (d:=U.dst) (v:=undef) (o:=oi) (ai i oi hi) ar
        exact an _ _ _ aw az ay av aQ (by rw [q2];exact hw) (fun ae s2 am ag=>by unfold Yl;rw [q1];exact(ak ae s2 am (by rw [aP] at ag;exact ag)).out) K
       | enter f args=>
        obtain⟨R,bb,bc⟩:=K
        refine⟨R,bb,fun u bd hu=>?_⟩
        obtain⟨aR,aS,aT⟩:=bc u bd hu
        refine⟨aR,aS,?_⟩
        rw [au,Fy aq] at aT
        obtain⟨q1,q2⟩:=EF (ops:=ops) (T:=T) (d:=U.dst) (v:=u) (o:=oi) (ai i oi hi) ar
        exact an _ _ _ aw az ay av aR (by rw [q2];exact hw) (fun ae s2 am ag=>by unfold Yl;rw [q1];exact(ak ae s2 am (fun x o K=>ag x o (aS x o K))).out) aT
       | _=>exact K.elim)
end
end Pal
namespace Pal
open Go Go.Conc
section
variable {P:Program}(J:Judge P)(Q:Goroutine→St→Prop)(b:Frame)(n:Nat)(ds:List Deferred)(ops:Array Oper)(k:List Item)(cs:List Frame)(m:Nat)(D:Nat→Bool)
def Au(fuel:Nat)(listed:Array Bool)(L:Env)(s:St):Prop:=∀T,Has n L T→JA J Q b ds ops k cs m D fuel listed T s
end
def Dd:Nat→Bool:=fun _=>false
section
variable {P:Program}{J:Judge P}{Q:Goroutine→St→Prop}{b:Frame}{n:Nat}{ds:List Deferred}{ops:Array Oper}{k:List Item}{cs:List Frame}{m fuel:Nat}{D:Nat→Bool}{listed:Array Bool}{L:Env}{s:St}
theorem JL.NV(m:Nat)(D:Nat→Bool){id:Nat}(K:s.q=false)(hm:P.follows .mixedOrders=true)(O:(b.kind != .early)=true)(h:Au J Q b n ds ops k cs m D ops.size (Array.replicate ops.size false) L s):JL J Q b n L ds (.code (.region id ops true)::k) cs s:=
 JL.draw K hm fun t T U=>JA.sound (by simpa using O) ops.size t _ T s (h T U)
theorem Au.S1{i:Nat}{oi:Oper}{v:Value}(hi:ops[i]? =some oi)(U:decide (i<m)=true)(W:Du ops m=true)(Z:Region.noSelect ops=true)(O:(!Cs oi.op)=true)(aa:FF ops listed i oi=true)(ab:EI ops listed=true)(ae:(listed.size==ops.size)=true)(ag:(Region.ready .any ops listed).contains i=true)(ah:s.q=false)
  (hw:AU L ops oi=some true) (ai:Bb n oi.dst=true) (aj:∀ρ,C4 L ρ→∀s',s'.q=false→(∀x o,(Bg D s).E x=some o→s'.E x=some o)→Yl P oi ρ s' v)
  (h:Au J Q b n ds ops k cs m D fuel (AX listed i) (AE L oi.dst v) s):Au J Q b n ds ops k cs m D (fuel+1) listed L s:=fun T K=>by
 refine JA.take (w:=true) (v:=v) hi (by simpa using U) W Z (fun c ak=>by rw [ak] at O;simp [Cs] at O) fuel listed T s aa ab (by simpa using ae) (by simpa using ag) ah (B8 K hw) (fun _ s' al am=>aj _ K.D4 s' al am) ?_
 exact h _ (K.put ai v)
theorem Au.SE{i:Nat}{oi:Oper}(hi:ops[i]? =some oi)(U:decide (i<m)=true)(W:Du ops m=true)(Z:Region.noSelect ops=true)(K:(!Cs oi.op)=true)(aa:FF ops listed i oi=true)(ab:EI ops listed=true)(ae:(listed.size==ops.size)=true)(ag:(Region.ready .any ops listed).contains i=true)(ah:s.q=false)
  (hw:AU L ops oi=some false) (ai:Bb n oi.dst=true)
  (h:Au J Q b n ds ops k cs m D fuel (AX listed i) (AE L oi.dst undef) s):Au J Q b n ds ops k cs m D (fuel+1) listed L s:=fun T O=>by
 refine JA.take (w:=false) (v:=undef) hi (by simpa using U) W Z (fun c aj=>by rw [aj] at K;simp [Cs] at K) fuel listed T s aa ab (by simpa using ae) (by simpa using ag) ah (B8 O hw) (fun e=>by cases e) ?_
 exact h _ (O.put ai undef)
theorem Au.each(ab:s.q=false)(ae:Region.ready .any ops listed≠ [])
  (h:∀i∈Region.ready .any ops listed,∀o,ops[i]? =some o→(!Cs o.op)=true∧Bb n o.dst=true∧∃w,AU L ops o=some w∧
   (w=false→Au J Q b n ds ops k cs m D fuel (AX listed i) (AE L o.dst undef) s)∧
   (w=true→∀ρ,C4 L ρ→lp P (execOp ρ o) (Bg D s) (fun nx s'=>match nx with
    | .value v=>Au J Q b n ds ops k cs m D fuel (AX listed i) (AE L o.dst v) (BP D s s')
    | .skip=>Au J Q b n ds ops k cs m D fuel (AX listed i) (AE L o.dst undef) (BP D s s')
    | .enter f args=>∃R,Cz J f args (BP D s s') R∧∀v K,R v K→K.q=false∧(∀x o,(Bg D s).E x=some o→(Bg D K).E x=some o)∧Au J Q b n ds ops k cs m D fuel (AX listed i) (AE L o.dst v) K
    | _=>False) (fun _ _=>False))):
  Au J Q b n ds ops k cs m D (fuel+1) listed L s:=fun T O=>by
 refine .inr ⟨ae,ab,fun i hi o ag=>?_⟩
 obtain⟨aa,U,w,hw,ah,ai⟩:=h i hi o ag
 have W:=B8 O hw
 refine⟨fun c aj=>by rw [aj] at aa;simp [Cs] at aa,fun e=>?_,fun e=>?_⟩
 ·rw [e] at W
  exact ah W.symm _ (O.put U undef)
 ·rw [e] at W;refine Cl _ (ai W.symm _ O.D4) ?_ (fun _ _ h=>h);intro nx s' Z;cases nx with
  | value v=>exact Z _ (O.put U v)
  | skip=>exact Z _ (O.put U undef)
  | enter f args=>
   obtain⟨R,ak,al⟩:=Z;exact⟨R,ak,fun v K am=>let ⟨a,b,c⟩:=al v K am;⟨a,b,c _ (O.put U v)⟩⟩
  | _=>exact Z.elim
theorem Au.one{i:Nat}{o:Oper}(aa:s.q=false)(W:Region.ready .any ops listed= [i])(hi:ops[i]? =some o)(O:(!Cs o.op&&Bb n o.dst)=true)(hw:AU L ops o=some true)
  (h:∀ρ,C4 L ρ→lp P (execOp ρ o) (Bg D s) (fun nx s'=>match nx with
    | .value v=>Au J Q b n ds ops k cs m D fuel (AX listed i) (AE L o.dst v) (BP D s s')
    | .skip=>Au J Q b n ds ops k cs m D fuel (AX listed i) (AE L o.dst undef) (BP D s s')
    | .enter f args=>∃R,Cz J f args (BP D s s') R∧∀v K,R v K→K.q=false∧(∀x o,(Bg D s).E x=some o→(Bg D K).E x=some o)∧Au J Q b n ds ops k cs m D fuel (AX listed i) (AE L o.dst v) K
    | _=>False) (fun _ _=>False)):
  Au J Q b n ds ops k cs m D (fuel+1) listed L s:=by
 simp only [Bool.and_eq_true] at O;refine Au.each aa (by rw [W];simp) fun j U o' Z=>?_;rw [W] at U;simp at U;subst U;obtain rfl:o'=o:=by rw [hi] at Z;exact(Option.some.inj Z).symm
 exact⟨O.1,O.2,true,hw,fun e=>(by cases e),fun _=>h⟩
theorem Au.call{i:Nat}{d:Option Tmp}{f:FuncId}{args:Array Operand}{ats:Array TypeId}{ty:TypeId}{p:String}{af:Array Edge}{g:Option (Nat×Bool)}{vs:List Value}{R:Value→St→Prop}(U:s.q=false)(W:Region.ready .any ops listed= [i])
  (Z:ops[i]? =some ⟨d,.call ⟨.value (.func f),args,ats⟩,ty,p,af,g⟩) (aa:Bb n d=true) (hw:AU L ops ⟨d,.call ⟨.value (.func f),args,ats⟩,ty,p,af,g⟩=some true) (hb:Cv P f=true) (ab:evs L args.toList=some vs)
  (ae:Cz J f vs.toArray s R) (h:∀v K,R v K→K.q=false∧(∀x o,(Bg D s).E x=some o→(Bg D K).E x=some o)∧Au J Q b n ds ops k cs m D fuel (AX listed i) (AE L d v) K):
  Au J Q b n ds ops k cs m D (fuel+1) listed L s:=by
 refine Au.one U W Z (by simp [Cs,aa]) hw fun ρ O=>?_;have ag:args.map ρ=vs.toArray:=by
  rw [← Ed O ab];apply Array.ext';simp
 have ah:ρ (.func f)= .func (.func f) #[] #[]:=O _ _ rfl;simp only [execOp,resolve,bind,Sem.bind,Deferred.ofValue,ah,pure,invoke];have e: #[]++args.map ρ++ #[]=vs.toArray:=by rw [ag];simp
 rw [e];refine Ge hb ?_;rw [Hp];exact⟨R,ae,h⟩
theorem Au.leaf{tail:List Nat}(K:NW m listed=true)(hgo:∀t,Region.linearise.go .any ops (fuel+1) t listed []=tail)(h:JL J Q b n L ds (.inRegion ops tail::k) cs s):Au J Q b n ds ops k cs m D (fuel+1) listed L s:=fun T O=>
 .inl ⟨K,fun t=>by rw [hgo t];exact h T O⟩
theorem Au.fin(K:Region.ready .any ops listed= [])(h:JL J Q b n L ds k cs s):Au J Q b n ds ops k cs m D 0 listed L s:=fun T O=>⟨K,JL.done h T O⟩
theorem A7{listed:Array Bool}{i:Nat}{tail:List Nat}{fuel:Nat}(K:Region.ready .any ops listed= [i])(h:∀t,Region.linearise.go .any ops fuel t (AX listed i) []=tail)(t:Nat):Region.linearise.go .any ops (fuel+1) t listed []=i::tail:=by
 simp only [Region.linearise.go];change (match(Region.ready .any ops listed)[t % (Region.ready .any ops listed).length]? with
  | some i=>Region.linearise.go .any ops fuel (t / (Region.ready .any ops listed).length) (listed.setIfInBounds i true) [i]
  | none=> [].reverse)=_
 rw [K];simp only [List.length_singleton,Nat.mod_one,List.getElem?_cons_zero];rw [linearise_go_acc];have:=h (t / 1);unfold AX at this;rw [this];rfl
theorem BU{listed:Array Bool}(t:Nat):Region.linearise.go .any ops 0 t listed []= []:=rfl
theorem JL.S6{i:Nat}{rest:List Nat}{d:Option Tmp}{f:FuncId}{args:Array Operand}{ats:Array TypeId}{ty:TypeId}{p:String}{af:Array Edge}{g:Option (Nat×Bool)}{vs:List Value}{R:Value→St→Prop}
  (U:ops[i]? =some ⟨d,.call ⟨.value (.func f),args,ats⟩,ty,p,af,g⟩) (hw:AU L ops ⟨d,.call ⟨.value (.func f),args,ats⟩,ty,p,af,g⟩=some true) (K:((b.kind != .early)&&Bb n d)=true) (hb:Cv P f=true)
  (W:evs L args.toList=some vs) (Z:Cz J f vs.toArray s R) (aa:∀v s',R v s'→JL J Q b n (AE L d v) ds (.inRegion ops rest::k) cs s'):
  JL J Q b n L ds (.inRegion ops (i::rest)::k) cs s:=fun T O=>by
 simp only [Bool.and_eq_true] at K
 have ab:args.map (Bf T)=vs.toArray:=by
  rw [← Ed O.D4 W];apply Array.ext';simp
 refine Judge.oper U (B8 O hw) (by simpa using K.1) (.inr fun c ae=>by cases ae) ?_;have ag:lp P (execOp (Bf T) ⟨d,.call ⟨.value (.func f),args,ats⟩,ty,p,af,g⟩) s (upon J Q b T ds ops i rest k cs d) (HT J Q b T ds ops i rest k cs):=by
  simp only [execOp,resolve,bind,Sem.bind,Deferred.ofValue,Bf,pure,invoke];have e: #[]++args.map (Bf T)++ #[]=vs.toArray:=by rw [ab];simp
  rw [e];refine Ge hb ?_;refine Z Q _ cs fun v s' ah=>?_;rw [D1 (o:=⟨d,.call ⟨.value (.func f),args,ats⟩,ty,p,af,g⟩) _ _ _ _ _ U];exact aa v s' ah _ (O.put K.2 v)
 exact ag
theorem Cz.enter{f:FuncId}{fn:Func}{c:Code}{vs:List Value}{R:Value→St→Prop}(W:P.funcs[f]? =some fn)(hb:fn.body=some c)(ab:vs.length≤fn.ntmps)
  (h:∀(Q:Goroutine→St→Prop) (K:Frame) (cs:List Frame),(∀v s',R v s'→J.ok Q (G (K.finish v) cs) s')→JL J Q (base f) fn.ntmps (D5 0 vs) [] [.code c] (K::cs) s):Cz J f vs.toArray s R:=fun Q K cs Z=>by
 have he:Frame.enter P f vs.toArray .normal=fr (base f) (vs.toArray++Array.replicate (fn.ntmps - vs.length) undef) [] [.code c]:=by
  simp [Frame.enter,fr,W,hb,base];rfl
 rw [he];refine h Q K cs Z _ ⟨by simp;omega,fun t v ht=>?_⟩;obtain⟨_,O⟩:=GI ht;have aa:t<vs.length:=by
  rcases Nat.lt_or_ge t vs.length with U | U
  ·exact U
  ·simp at O;have:=(List.getElem?_eq_some_iff.1 O).1;omega
 rw [Array.getD_eq_getD_getElem?,Array.getElem?_append_left (by simpa using aa)];simp at O;simp [O]
end
end Pal
namespace Pal
open Go Go.Conc
section
variable {P:Program}{J:Judge P}{Q:Goroutine→St→Prop}{b:Frame}{n:Nat}{ds:List Deferred}{ops:Array Oper}{k:List Item}{cs:List Frame}{L:Env}{s:St}{E E' H:LH}{B B0:List (Nat×Obj)}
theorem JL.Fp(O:s.q=false)(h:(∃w,Fits s w)→JL J Q b n L ds k cs s):JL J Q b n L ds k cs s:=fun T U=>by
 by_cases K:∃w,Fits s w
 ·exact h K T U
 ·exact J.step ⟨rfl,fun w f=>absurd ⟨w,f⟩ K,fun e=>by subst e;cases O⟩
theorem LN{x:Nat}:∀{B:List (Nat×Obj)},(∃p∈B,p.1=x)→AS B H x≠none
 | [],⟨p,K,_⟩=>by cases K
 | (c,o)::B,⟨p,K,e⟩=>by
  simp only [AS]
  split
  ·simp
  ·rename_i O;rcases List.mem_cons.1 K with q | q
   ·subst q;exact absurd e.symm O
   ·exact LN ⟨p,q,e⟩
theorem Nd.grow(O:Nd E H B)(U:∀x,E' x≠none→AS B H x=none):Nd E' H B:=by
 have key:∀{C:List (Nat×Obj)},Nd E H C→(∀p∈C,p∈B)→Nd E' H C:=by
  intro C
  induction C with
  | nil=>intro _ _;trivial
  | cons p C W=>
   obtain⟨c,o⟩:=p;intro hC hs;refine⟨?_,hC.2.1,hC.2.2.1,W hC.2.2.2 fun p K=>hs p (List.mem_cons_of_mem _ K)⟩;cases Z:E' c with
   | none=>rfl
   | some u=>exact absurd (U c (by rw [Z];simp)) (LN ⟨(c,o),hs _ (by simp),rfl⟩)
 exact key O fun p K=>K
def Lf(J:Judge P)(f:FuncId)(args:List Value)(E:LH)(R:Value→LH→Prop):Prop:=
 ∀H,Cz J f args.toArray (mk E H []) (fun v s'=>∃E',Le E E'∧R v E'∧s'=mk E' H [])
theorem Lf.mono{f:FuncId}{vs:List Value}{R K:Value→LH→Prop}(h:Lf J f vs E R)(U:∀v E',Le E E'→R v E'→K v E'):Lf J f vs E K:=fun H=>
 (h H).mono fun v s' ⟨E',O,W,Z⟩=>⟨E',O,U v E' O W,Z⟩
def H9(E:LH)(O:Nat)(v:Value)(n:Nat)(xs:List Value):Prop:=
 ∃a c,v= .slice a n c∧n≤c∧xs.length=n*O∧(n=0∨∃K off f e fr,a=some ⟨K,off,none⟩∧E K=some (.cells f e fr)∧∀j w,xs[j]? =some w→f[off+j]? =some w)
theorem H9.nil{K:Nat}:H9 E K (.slice none 0 0) 0 []:=⟨none,0,rfl,Nat.le_refl _,by simp,.inl rfl⟩
theorem H9.get{K m i:Nat}{v:Value}{xs:List Value}(h:H9 E K v m xs)(hi:i<m):
  ∃O off c,v= .slice (some ⟨O,off,none⟩) m c∧∀s:St,(∀x o,E x=some o→s.E x=some o)→∀j w,xs[i*K+j]? =some w→s.cell? ⟨O,off+i*K+j,none⟩=some w:=by
 obtain⟨a,c,W,ae,ag,U⟩:=h;rcases U with U | ⟨O,off,f,e,fr,Z,aa,ab⟩
 ·omega
 ·subst Z;refine⟨O,off,c,W,fun s hs j w hw=>?_⟩;have:=ab _ w hw;unfold St.cell? St.get;rw [hs _ _ aa];show f[off+i*K+j]? =some w;rw [Nat.add_assoc];exact this
def GS(e:TypeId)(K:Nat)(a:Option Addr)(l c:Nat)(blk:List (Nat×Obj))(xs:List Value):Prop:=
 (a=none∧l=0∧c=0∧blk= []∧xs= [])∨∃O f,a=some ⟨O,0,none⟩∧blk= [(O,.cells f e (0,0))]∧f.size=c*K∧l≤c∧xs=f.toList.take (l*K)
theorem GS.nil{e:TypeId}{K:Nat}:GS e K none 0 0 [] []:= .inl ⟨rfl,rfl,rfl,rfl,rfl⟩
theorem GS.length{e:TypeId}{K:Nat}{a:Option Addr}{l c:Nat}{blk:List (Nat×Obj)}{xs:List Value}(h:GS e K a l c blk xs):xs.length=l*K:=by
 rcases h with⟨_,rfl,_,_,rfl⟩ | ⟨W,f,_,_,O,U,rfl⟩
 ·simp
 ·have:l*K≤c*K:=Nat.mul_le_mul_right _ U;simp [O,Nat.min_eq_left this]
theorem OH{t e:TypeId}{v:Value}{Q:Value→St→Prop}{X:Halt→St→Prop}{z:Value}(ht:P.underlying t=some (.slice e))(U:Bj P e=some v.cells.size)(W:zeroOf P e=some z)(ag:z.cells.size=v.cells.size)(ah:0<v.cells.size)(ai:v.cells.size≤64)
  (Z:Nd E H B) (k:∀r,Nd E H (B++ [(r,.cells v.cells e (0,0))])→Q (.slice (some ⟨r,0,none⟩) 1 1) (mk E H (B++ [(r,.cells v.cells e (0,0))]))):lp P (Instr.buildSlice t 1 #[(0,v)]) (mk E H B) Q X:=by
 unfold Instr.buildSlice;refine AD _ _ (Ck ht ?_);refine AD _ _ (Di U ?_);rw [if_neg (by omega),if_neg (by omega)];refine AD (x:=zeroValue e) _ (D9 W ?_);have aa:Instr.fill (fun i=>some (i*v.cells.size,v.cells.size)) ((Array.range (1*v.cells.size)).map fun i=>z.cells[i % z.cells.size]!) [(0,v)]=some v.cells:=by
  simp only [Instr.fill,Array.size_map,Array.size_range,Nat.one_mul,Nat.zero_mul];rw [if_neg (by simp)];congr 1;apply Array.ext_getElem?;intro j;have key:∀(l:List Value) (st:Nat) (c:Array Value),st+l.length≤c.size→∀j,(List.foldl (fun cs (p:Value×Nat)=>cs.setIfInBounds (0+p.2) p.1) c (l.zipIdx st))[j]? =if st≤j∧j<st+l.length then l[j - st]? else c[j]? :=by
   intro l
   induction l with
   | nil=>intro st c _ j;simp;omega
   | cons x l ab=>
    intro st c aj j;simp only [List.zipIdx_cons,List.foldl_cons,List.length_cons] at*;rw [ab (st+1) _ (by simp;omega) j];simp only [Nat.zero_add];by_cases ae:j=st
    ·subst ae;rw [if_neg (by omega),if_pos (by omega)];rw [Nat.sub_self,List.getElem?_cons_zero,Array.getElem?_setIfInBounds_self_of_lt (by omega)]
    ·by_cases K:st+1≤j∧j<st+1+l.length
     ·rw [if_pos K,if_pos (by omega)];have:j - st=(j - (st+1))+1:=by omega
      rw [this];simp
     ·rw [if_neg K,if_neg (by omega),Array.getElem?_setIfInBounds_ne (by omega)]
  have:=key v.cells.toList 0 ((Array.range v.cells.size).map fun i=>z.cells[i % z.cells.size]!) (by simp) j;rw [← Array.foldl_toList,Array.toList_zipIdx,this];by_cases O:j<v.cells.size
  ·simp [O]
  ·simp [O]
 rw [EV];simp only [aa];exact AD _ _ (EX Z k)
end
end Pal
namespace Pal
open Go Go.Conc
section
variable {P:Program}{J:Judge P}{Q:Goroutine→St→Prop}{b:Frame}{n:Nat}{ds:List Deferred}{ops:Array Oper}{k:List Item}{cs:List Frame}{L:Env}{s:St}{E E' H:LH}{B B0:List (Nat×Obj)}
theorem Ih{ρ:Operand→Value}{d:Option Tmp}{x y:Operand}{ats:Array TypeId}{ty:TypeId}{p:String}{af:Array Edge}{g:Option (Nat×Bool)}:
  execOp ρ ⟨d,.call ⟨.builtin .append,#[x,y],ats⟩,ty,p,af,g⟩=(do pure (Next.value (← Builtin.append_ ats ty #[ρ x,ρ y]))):=by
 simp [execOp,resolve,invoke,builtin,bind,Sem.bind,pure]
theorem ON{ρ:Operand→Value}{d:Option Tmp}{y:Operand}{t ty:TypeId}{p:String}{af:Array Edge}{g:Option (Nat×Bool)}:
  execOp ρ ⟨d,.buildSlice t 1 #[(0,y)],ty,p,af,g⟩=(do pure (Next.value (← Instr.buildSlice t 1 #[(0,ρ y)]))):=by
 simp [execOp]
theorem Ru{L:Env}{d1:Tmp}{w:Value}:ev (AE L (some d1) w) (.tmp d1)=some w:=by
 simp [AE,ev,look]
theorem FZ{α:Type}(l r:List α)(x y:α):(l++x::r).set l.length y=l++y::r:=by simp
theorem JL.FY{e t t1:TypeId}{W ai l c m:Nat}{a:Option Addr}{blk:List (Nat×Obj)}{xs ys:List Value}{i:Nat}{rest:List Nat}{d:Option Tmp}{x y:Operand}{ats:Array TypeId}{ty:TypeId}{p:String}{af:Array Edge}{g:Option (Nat×Bool)}{z:Value}{ax:Option Addr}{cx:Nat}{B1:List (Nat×Obj)}
  (av:ops[i]? =some ⟨d,.call ⟨.builtin .append,#[x,y],ats⟩,ty,p,af,g⟩) (hw:AU L ops ⟨d,.call ⟨.builtin .append,#[x,y],ats⟩,ty,p,af,g⟩=some true) (aw:BR b n ⟨d,.call ⟨.builtin .append,#[x,y],ats⟩,ty,p,af,g⟩=true)
  (ay:ev L x=some (.slice a l c)) (az:ev L y=some (.slice ax m cx)) (aA:ats[0]? =some t) (aB:ats[1]? =some t1) (ht:P.underlying t=some (.slice e)) (aC:P.underlying t1=some (.slice e)) (aD:Bj P e=some W) (hb:Dc P e=some ai) (aE:zeroOf P e=some z) (aF:z.cells.size=W)
  (aG:0<ai) (aH:ai≤64) (aQ:0<m) (aI:l+m≤2 ^ 40) (aJ:∀w∈ys,BJ w=true) (aj:GS e W a l c blk xs) (aK:Nd E H (B0++blk++B1)) (hs:Eg (mk E H (B0++blk++B1)) (.slice ax m cx) W ys)
  (h:∀ar ab ak,GS e W ar (l+m) ab ak (xs++ys)→Nd E H (B0++ak)→JL J Q b n (AE L d (.slice ar (l+m) ab)) ds (.inRegion ops rest::k) cs (mk E H (B0++ak))):
  JL J Q b n L ds (.inRegion ops (i::rest)::k) cs (mk E H (B0++blk++B1)):=by
 refine JL.op av hw aw fun ρ au=>?_;rw [Ih,au x _ ay,au y _ az];have aL:Jh (B0++blk++B1) B0.length e W a l c xs:=by
  rcases aj with⟨O,aa,ae,al,ag⟩ | ⟨am,f,O,aa,ae,al,ag⟩
  ·exact .inl ⟨O,aa,ae,ag⟩
  ·refine .inr ⟨am,f,O,?_,ae,al,ag⟩;subst aa;simp
 have hlen:=aj.length;refine AD _ _ (JU (pl:=B0.length) aA aB aC ht aD hb aE aF aK aL hs aJ aG aI aH ?_ ?_ ?_)
 ·
  intro am f K ah aR aS aM an ao Z;rcases aj with⟨O,_⟩ | ⟨U,f0,O,aa,ae,al,ag⟩
  ·rw [O] at ah;cases ah
  ·subst aa;have aN:U=am:=by rw [O] at ah;simpa using ah
   subst aN;have aO:(B0++ [(U,Obj.cells f0 e (0,0))]++B1).set B0.length (U,.cells K e (0,0))=B0++ [(U,.cells K e (0,0))]++B1:=by
    rw [List.append_assoc,List.append_assoc];exact FZ _ _ _ _
   rw [aO] at Z ⊢;have ap:Nd E H (B0++ [(U,.cells K e (0,0))]):=Nd.left Z;refine JL.drop (B0++ [(U,.cells K e (0,0))]) (fun p aq=>?_) Z (h a c _ (.inr ⟨U,K,O,rfl,an,aM,ao.symm⟩) ap);exact List.mem_iff_getElem?.1 (List.mem_append_left _ aq)
 ·intro _ hm;omega
 ·
  intro r K ab aP an ao Z;have ap:Nd E H (B0++ [(r,.cells K e (0,0))]):=Nd.pick Z;refine JL.drop (B0++ [(r,.cells K e (0,0))]) (fun p aq=>?_) Z (h (some ⟨r,0,none⟩) ab _ (.inr ⟨r,K,rfl,rfl,an,aP,ao.symm⟩) ap);refine List.mem_iff_getElem?.1 ?_;rcases List.mem_append.1 aq with q | q
  ·simp [q]
  ·exact List.mem_append_right _ q
 where
  Nd.left {E H : LH} {A C : List (Nat × Obj)} (h : Nd E H (A ++ C)) : Nd E H A := by
    induction A with
    | nil => trivial
    | cons p A ih =>
      obtain ⟨c, o⟩ := p
      obtain ⟨h1, h2, h3, h4⟩ := h
      exact ⟨h1, h2, fun q hq => h3 q (List.mem_append_left _ hq), ih h4⟩
  Nd.pick {E H : LH} {A C F : List (Nat × Obj)} {x : Nat × Obj} (h : Nd E H (A ++ C ++ F ++ [x])) : Nd E H (A ++ [x]) := by
    induction A with
    | nil =>
      have : ∀ (D : List (Nat × Obj)), Nd E H (D ++ [x]) → Nd E H [x] := by
        intro D
        induction D with
        | nil => exact fun h => h
        | cons p D ih => obtain ⟨c, o⟩ := p; exact fun h => ih h.2.2.2
      exact this _ h
    | cons p A ih =>
      obtain ⟨c, o⟩ := p
      obtain ⟨h1, h2, h3, h4⟩ := h
      refine ⟨h1, h2, fun q hq => h3 q ?_, ih h4⟩
      rcases List.mem_append.1 hq with hq | hq
      · simp [hq]
      · exact List.mem_append_right _ hq
theorem PN{K r:Nat}{e:TypeId}{v:Value}{A:List (Nat×Obj)}(O:v.cells.size=K)(U:Nd E H (A++ [(r,.cells v.cells e (0,0))])):
  Eg (mk E H (A++ [(r,.cells v.cells e (0,0))])) (.slice (some ⟨r,0,none⟩) 1 1) K v.cells.toList:=by
 refine⟨rfl,by simp [O],Nat.le_refl _,fun j w W=>?_⟩;simp only [Nat.zero_add];refine Mi (i:=A.length) U (c:=v.cells) (e:=e) (f:=(0,0)) (by simp) ?_;simpa using W
theorem JL.IT{e t t1 t2:TypeId}{K O l c:Nat}{a:Option Addr}{blk:List (Nat×Obj)}{xs:List Value}{i ae:Nat}{rest:List Nat}{d1:Tmp}{d:Option Tmp}{x y:Operand}{ats:Array TypeId}{ty U:TypeId}{p W:String}{af Z:Array Edge}{g g':Option (Nat×Bool)}{z v:Value}
  (am:ops[i]? =some ⟨some d1,.buildSlice t2 1 #[(0,y)],U,W,Z,g'⟩) (hw:AU L ops ⟨some d1,.buildSlice t2 1 #[(0,y)],U,W,Z,g'⟩=some true) (an:BR b n ⟨some d1,.buildSlice t2 1 #[(0,y)],U,W,Z,g'⟩=true)
  (ao:ops[ae]? =some ⟨d,.call ⟨.builtin .append,#[x,.tmp d1],ats⟩,ty,p,af,g⟩) (ap:∀w,AU (AE L (some d1) w) ops ⟨d,.call ⟨.builtin .append,#[x,.tmp d1],ats⟩,ty,p,af,g⟩=some true) (aq:BR b n ⟨d,.call ⟨.builtin .append,#[x,.tmp d1],ats⟩,ty,p,af,g⟩=true)
  (ar:∀w,ev (AE L (some d1) w) x=some (.slice a l c)) (au:ev L y=some v) (av:ats[0]? =some t) (aw:ats[1]? =some t1) (ht:P.underlying t=some (.slice e)) (ay:P.underlying t1=some (.slice e)) (az:P.underlying t2=some (.slice e)) (ag:Bj P e=some K) (hb:Dc P e=some O) (ah:zeroOf P e=some z) (ai:z.cells.size=K)
  (aA:0<O) (aB:O≤64) (aa:v.cells.size=K) (aH:0<K) (aI:K≤64) (aC:l+1≤2 ^ 40) (aD:∀w∈v.cells.toList,BJ w=true) (aE:GS e K a l c blk xs) (aF:Nd E H (B0++blk))
  (h:∀w aj ak ab,GS e K aj (l+1) ak ab (xs++v.cells.toList)→Nd E H (B0++ab)→JL J Q b n (AE (AE L (some d1) w) d (.slice aj (l+1) ak)) ds (.inRegion ops rest::k) cs (mk E H (B0++ab))):
  JL J Q b n L ds (.inRegion ops (i::ae::rest)::k) cs (mk E H (B0++blk)):=by
 refine JL.op am hw an fun ρ aG=>?_;rw [ON,aG y _ au];refine AD _ _ (OH (z:=z) (v:=v) az (by rw [aa];exact ag) ah (by rw [aa];exact ai) (by omega) (by omega) aF fun r al=>?_);refine JL.FY (B1:= [(r,.cells v.cells e (0,0))]) (m:=1) (cx:=1) (ax:=some ⟨r,0,none⟩) (y:= .tmp d1) (x:=x) (ys:=v.cells.toList) (l:=l) (c:=c) (a:=a) (blk:=blk) (xs:=xs) ao (ap _) aq (ar _) Ru av aw ht ay ag hb ah ai aA aB (by omega) aC aD aE al ?_ (h _);exact PN aa al
theorem JL.Qh{e:TypeId}{K l c:Nat}{a:Option Addr}{blk:List (Nat×Obj)}{xs:List Value}{todo:List Item}(ab:GS e K a l c blk xs)(W:Nd E H (B0++blk))
  (h:∀E',Le E E'→H9 E' K (.slice a l c) l xs→Nd E' H B0→JL J Q b n L ds todo cs (mk E' H B0)):JL J Q b n L ds todo cs (mk E H (B0++blk)):=by
 rcases ab with⟨rfl,rfl,rfl,rfl,rfl⟩ | ⟨O,f,rfl,rfl,ae,Z,rfl⟩
 ·simp only [List.append_nil] at W ⊢;exact h E (Le.refl _) .nil W
 ·have ag:(B0++ [(O,Obj.cells f e (0,0))])[B0.length]? =some (O,Obj.cells f e (0,0)):=by simp
  refine JL.freeze B0.length W ag fun E' hle ah aa=>?_;have ai:(B0++ [(O,Obj.cells f e (0,0))]).eraseIdx B0.length=B0:=by rw [List.eraseIdx_append_of_length_le (Nat.le_refl _)];simp
  rw [ai] at aa ⊢;refine h E' hle ⟨_,c,rfl,Z,?_,.inr ⟨O,0,f,e,(0,0),rfl,ah,fun j w U=>?_⟩⟩ aa
  ·have:l*K≤c*K:=Nat.mul_le_mul_right _ Z;simp [ae,Nat.min_eq_left this]
  ·rw [List.getElem?_take] at U;split at U
   ·simpa using U
   ·cases U
end
end Pal
namespace Pal
open Go Go.Conc
abbrev CY(s:Nat):Value:= .int .u16 (s:Int)
abbrev iV(n:Int):Value:= .int .i64 n
section
variable {P:Program}{s:St}{ρ:Operand→Value}{d:Option Tmp}{t u ty:TypeId}{x y:Operand}{p:String}{af:Array Edge}{g:Option (Nat×Bool)}{a c:Nat}
theorem Kr{m:Nat}(h:m<65536):IntKind.u16.wrap (m:Int)=m:=by
 simp only [IntKind.wrap,IntKind.bits,IntKind.signed];simp;omega
theorem Jt{m:Nat}(h:m<65536):(BitVec.ofInt IntKind.u16.bits (m:Int)).toNat=m:=by
 simp [IntKind.bits,BitVec.toNat_ofInt];omega
theorem Yl.Tc(K:ρ x=CY a)(O:ρ y=iV (c:Int))(U:c≤16):Yl P ⟨d,.binOp .shr t x y u,ty,p,af,g⟩ ρ s (CY (a>>>c)):=by
 have h:=Yl.shr (P:=P) (s:=s) (d:=d) (t:=t) (u:=u) (ty:=ty) (p:=p) (af:=af) (g:=g) K O (by omega);have e:((a:Int).fdiv (2 ^ (min (c:Int).toNat IntKind.u16.bits)))=((a>>>c:Nat):Int):=by
  have:min (c:Int).toNat IntKind.u16.bits=c:=by simp [IntKind.bits];omega
  rw [this,Nat.shiftRight_eq_div_pow,Int.fdiv_eq_ediv_of_nonneg _ (Int.pow_nonneg (by decide))];rw [Int.natCast_ediv]
  rfl
 rw [e] at h;exact h
theorem Yl.Ta(O:ρ x=CY a)(U:ρ y=CY c)(K:a<65536)(W:c<65536):Yl P ⟨d,.binOp .and t x y u,ty,p,af,g⟩ ρ s (CY (a&&& c)):=by
 have h:=Yl.and (P:=P) (s:=s) (d:=d) (t:=t) (u:=u) (ty:=ty) (p:=p) (af:=af) (g:=g) O U;rw [BitVec.toNat_and,Jt K,Jt W,Kr (Nat.lt_of_le_of_lt Nat.and_le_left K)] at h;exact h
theorem Yl.Tt(U:ρ x=CY a)(W:ρ y=CY c)(K:a<65536)(O:c<65536):Yl P ⟨d,.binOp .or t x y u,ty,p,af,g⟩ ρ s (CY (a ||| c)):=by
 have h:=Yl.or (P:=P) (s:=s) (d:=d) (t:=t) (u:=u) (ty:=ty) (p:=p) (af:=af) (g:=g) U W;rw [BitVec.toNat_or,Jt K,Jt O,Kr (Nat.or_lt_two_pow (n:=16) K O)] at h;exact h
theorem Yl.Tb(K:ρ x=CY 1)(O:ρ y=iV (c:Int))(U:c<16):Yl P ⟨d,.binOp .shl t x y u,ty,p,af,g⟩ ρ s (CY (1<<<c)):=by
 have h:=Yl.shl (P:=P) (s:=s) (d:=d) (t:=t) (u:=u) (ty:=ty) (p:=p) (af:=af) (g:=g) K O (by omega);have e:IntKind.u16.wrap (((1:Nat):Int)*2 ^ (min (c:Int).toNat IntKind.u16.bits))=((1<<<c:Nat):Int):=by
  have W:min (c:Int).toNat IntKind.u16.bits=c:=by simp [IntKind.bits];omega
  have Z:(1<<<c)<65536:=by rw [Nat.one_shiftLeft];exact Nat.pow_lt_pow_right (n:=16) (by omega) U
  rw [W,← Kr Z,Nat.one_shiftLeft];simp
 rw [e] at h;exact h
end
theorem J4{P:Program}{t:TypeId}{K:TypeInfo}(h:P.types[t]? =some K):P.info? t=some K:=by
 have:=(Array.getElem?_eq_some_iff.1 h).1;unfold Tables.info?;rw [if_pos this,h]
theorem Ag{P:Program}{t:TypeId}{K:TypeInfo}(h:P.types[t]? =some K):Bj P t=some K.size:=by simp [Bj,J4 h]
theorem CJ{P:Program}{t:TypeId}{K:TypeInfo}(h:P.types[t]? =some K):Dc P t=some K.bytes:=by simp [Dc,J4 h]
theorem AN{P:Program}{t:TypeId}{K:TypeInfo}(h:P.types[t]? =some K):zeroOf P t=K.zero:=by simp [zeroOf,J4 h]
def RG:TypeDesc→Bool | .struct _=>true | .array _ _=>true | _=>false
theorem An{P:Program}{t:TypeId}{d:TypeDesc}(h:P.underlying t=some d):CM P t=some (RG d):=by
 unfold CM;rw [h];cases d <;> rfl
theorem Aw{P:Program}{f:FuncId}{fn:Func}(h:P.funcs[f]? =some fn)(hb:(!(fn.name== "runtime.NumGoroutine")&&fn.body.isSome)=true):Cv P f=true:=by
 simp only [Cv,h];exact hb
theorem Q9(a c:Nat):decide (((a>>>c&&& 1:Nat):Int)=((1:Nat):Int))=a.testBit c:=by
 have:a.testBit c=decide ((a>>>c)&&& 1=1):=by
  rw [Nat.testBit,Nat.and_comm];rcases Nat.mod_two_eq_zero_or_one (a>>>c) with h | h <;> simp [Nat.and_one_is_mod,Nat.one_and_eq_mod_two,h]
 rw [this];congr 1;simp only [eq_iff_iff];omega
def M8(a:Nat):Nat→List Nat
 | 0=> []
 | n+1=>M8 a n++(if a.testBit n then [n] else [])
abbrev Jl(a:Nat):List Nat:=M8 a 16
end Pal
namespace Pal
end Pal
namespace Pal
open Go Go.Conc
end Pal
namespace Pal
open Go Go.Conc
def At(E:LH)(K o:Nat)(ws:List Value):Prop:=∃f e fr,E K=some (.cells f e fr)∧∀j w,ws[j]? =some w→f[o+j]? =some w
theorem At.mono{E E':LH}{K o:Nat}{ws:List Value}(h:At E K o ws)(hle:Le E E'):At E' K o ws:=let ⟨f,e,fr,O,U⟩:=h;⟨f,e,fr,hle _ _ O,U⟩
theorem At.cell{E H:LH}{B:List (Nat×Obj)}{K o j:Nat}{ws:List Value}{w:Value}(h:At E K o ws)(O:ws[j]? =some w):(mk E H B).cell? ⟨K,o+j,none⟩=some w:=
 let ⟨_,_,_,U,W⟩:=h;PC U (W j w O)
theorem At.cells{E H:LH}{B:List (Nat×Obj)}{K o:Nat}{ws:List Value}(h:At E K o ws):∀j v,ws[j]? =some v→(mk E H B).cell? (Addr.add ⟨K,o,none⟩ j)=some v:=fun j v O=>by
 rw [Bd rfl];exact h.cell O
def Tq(E:LH)(U:Nat)(v:Value)(K:List (List Value)):Prop:=
 ∃a c,v= .slice a K.length c∧K.length≤c∧(K= []∨∃O off,a=some ⟨O,off,none⟩∧∀i xs,K[i]? =some xs→At E O (off+i*U) xs)
section
variable {P:Program}{J:Judge P}{Q:Goroutine→St→Prop}{b:Frame}{n:Nat}{ds:List Deferred}{ops:Array Oper}{k:List Item}{cs:List Frame}{L:Env}{s:St}{E E' H:LH}{B B0:List (Nat×Obj)}
variable {d:Option Tmp}{x y:Operand}{t u ty e:TypeId}{p:String}{af:Array Edge}{g:Option (Nat×Bool)}{v:Value}{i:Nat}{rest:List Nat}{kd:IntKind}
theorem JL.TF{O:Nat}{U:List (List Value)}{xs:List Value}{m:Nat}(Z:Tq E O v U)(hm:U[m]? =some xs)
  (aa:ops[i]? =some ⟨d,.indexAddr t x y,ty,p,af,g⟩) (hw:AU L ops ⟨d,.indexAddr t x y,ty,p,af,g⟩=some true) (ab:BR b n ⟨d,.indexAddr t x y,ty,p,af,g⟩=true)
  (ae:ev L x=some v) (ag:ev L y=some (.int kd (m:Int))) (ht:P.underlying t=some (.slice e)) (ah:Bj P e=some O)
  (h:∀K o,At E K o xs→JL J Q b n (AE L d (.pointer (some ⟨K,o,none⟩))) ds (.inRegion ops rest::k) cs (mk E H B)):
  JL J Q b n L ds (.inRegion ops (i::rest)::k) cs (mk E H B):=by
 obtain⟨a,c,ai,am,aj⟩:=Z;have ak:m<U.length:=(List.getElem?_eq_some_iff.1 hm).1;rcases aj with rfl | ⟨K,off,rfl,al⟩
 ·simp at ak
 ·subst ai;refine JL.y (v:= .pointer (some ⟨K,off+m*O,none⟩)) aa hw ab (fun ρ W=>?_) (h K (off+m*O) (al m xs hm));have:=Yl.HB (P:=P) (s:=mk E H B) (d:=d) (ty:=ty) (p:=p) (af:=af) (g:=g) ht ah (W x _ ae) (W y _ ag) ⟨by omega,by omega⟩;rw [Bd rfl] at this;simpa using this
theorem JL.put(h:look L i=some v)(O:JL J Q b n (AE L (some i) v) ds k cs s):JL J Q b n L ds k cs s:=fun T K=>
 O T ⟨K.size,fun t w e=>by
  simp only [AE,look] at e
  split at e
  ·rename_i U;subst U;cases e;exact K.at_ _ _ h
  ·exact K.at_ _ _ e⟩
theorem JL.Cm{q:Prop} [Decidable q] (h:look L i=some (.bool (decide q)))(O:q→JL J Q b n (AE L (some i) (.bool true)) ds k cs s)(U:¬q→JL J Q b n (AE L (some i) (.bool false)) ds k cs s):JL J Q b n L ds k cs s:=by
 by_cases K:q
 ·refine JL.put (i:=i) (v:= .bool true) ?_ (O K);rw [h,decide_eq_true K]
 ·refine JL.put (i:=i) (v:= .bool false) ?_ (U K);rw [h,decide_eq_false K]
theorem JL.Cb{c:Bool}(h:look L i=some (.bool c))(K:c=true→JL J Q b n (AE L (some i) (.bool true)) ds k cs s)(O:c=false→JL J Q b n (AE L (some i) (.bool false)) ds k cs s):JL J Q b n L ds k cs s:=by
 cases c
 ·exact JL.put h (O rfl)
 ·exact JL.put h (K rfl)
end
end Pal
namespace Pal
open Go Go.Conc
theorem Yl.Ow{P:Program}{s:St}{ρ:Operand→Value}{d:Option Tmp}{t ty ft:TypeId}{x:Operand}{p:String}{af:Array Edge}{g:Option (Nat×Bool)}{a:Addr}{K:Array Field}{i:Nat}{fl:Field}(O off:Nat)(ht:P.underlying t=some (.struct K))(U:Bj P ft=some (O+1))(hi:K[i]? =some fl)(W:fl.type=ft)(Z:fl.offset=off)(aa:ρ x= .pointer (some a)):
  Yl P ⟨d,.fieldAddr t x i,ty,p,af,g⟩ ρ s (.pointer (some (a.add off))):=by
 subst W Z;exact Yl.fieldAddr ht hi U aa
end Pal
namespace Pal
open Go Go.Conc
section
variable {P:Program}{J:Judge P}{Q:Goroutine→St→Prop}{b:Frame}{n:Nat}{ds:List Deferred}{ops:Array Oper}{k:List Item}{cs:List Frame}{L:Env}{s:St}{E E' H:LH}{B B0:List (Nat×Obj)}
variable {d:Option Tmp}{x y:Operand}{t u ty e:TypeId}{p:String}{af:Array Edge}{g:Option (Nat×Bool)}{v:Value}{i:Nat}{rest:List Nat}{kd:IntKind}
theorem JL.TG(O:ops[i]? =some ⟨d,.box e x,ty,p,af,g⟩)(hw:AU L ops ⟨d,.box e x,ty,p,af,g⟩=some true)(U:BR b n ⟨d,.box e x,ty,p,af,g⟩=true)(W:Nd E H B)(Z:ev L x=some v)
  (h:∀r E',Le E E'→At E' r 0 v.cells.toList→Nd E' H B→JL J Q b n (AE L d (.pointer (some ⟨r,0,none⟩))) ds (.inRegion ops rest::k) cs (mk E' H B)):
  JL J Q b n L ds (.inRegion ops (i::rest)::k) cs (mk E H B):=by
 refine JL.box O hw U W Z fun r aa=>?_;have ab:(B++ [(r,Obj.cells v.cells e (0,0))])[B.length]? =some (r,Obj.cells v.cells e (0,0)):=by simp
 refine JL.freeze B.length aa ab fun E' hle ae K=>?_;have ag:(B++ [(r,Obj.cells v.cells e (0,0))]).eraseIdx B.length=B:=by rw [List.eraseIdx_append_of_length_le (Nat.le_refl _)];simp
 rw [ag] at K ⊢;exact h r E' hle ⟨_,_,_,ae,fun j w ah=>by simpa using ah⟩ K
theorem At.CU{K o j:Nat}{ws:List Value}{w:Value}(h:At E K o ws)(hs:∀x o,E x=some o→s.E x=some o)(O:ws[j]? =some w):s.cell? ⟨K,o+j,none⟩=some w:=by
 obtain⟨f,e,fr,U,W⟩:=h;unfold St.cell? St.get;rw [hs _ _ U];exact W j w O
theorem At.Kn{K o:Nat}{ws:List Value}(h:At E K o ws)(hs:∀x o,E x=some o→s.E x=some o):∀j v,ws[j]? =some v→s.cell? (Addr.add ⟨K,o,none⟩ j)=some v:=fun j v O=>by
 rw [Bd rfl];exact h.CU hs O
end
section
variable {P:Program}{J:Judge P}{Q:Goroutine→St→Prop}{b:Frame}{n:Nat}{ds:List Deferred}{ops:Array Oper}{k:List Item}{cs:List Frame}{m fuel:Nat}{listed:Array Bool}{L:Env}{E H:LH}{B:List (Nat×Obj)}
variable {d:Option Tmp}{x y:Operand}{t u ty e:TypeId}{p:String}{af:Array Edge}{g:Option (Nat×Bool)}{v:Value}{i:Nat}{kd:IntKind}
end
end Pal
namespace Pal
open Go Go.Conc
section
variable {P:Program}{J:Judge P}{Q:Goroutine→St→Prop}{b:Frame}{n:Nat}{ds:List Deferred}{ops:Array Oper}{k:List Item}{cs:List Frame}{m fuel:Nat}{D:Nat→Bool}{listed:Array Bool}{L:Env}{s:St}{i:Nat}{v:Value}
theorem Au.put(h:look L i=some v)(O:Au J Q b n ds ops k cs m D fuel listed (AE L (some i) v) s):Au J Q b n ds ops k cs m D fuel listed L s:=fun T K=>
 O T ⟨K.size,fun t w e=>by
  simp only [AE,look] at e
  split at e
  ·rename_i U;subst U;cases e;exact K.at_ _ _ h
  ·exact K.at_ _ _ e⟩
theorem Au.Cm{q:Prop} [Decidable q] (h:look L i=some (.bool (decide q)))(O:q→Au J Q b n ds ops k cs m D fuel listed (AE L (some i) (.bool true)) s)(U:¬q→Au J Q b n ds ops k cs m D fuel listed (AE L (some i) (.bool false)) s):Au J Q b n ds ops k cs m D fuel listed L s:=by
 by_cases K:q
 ·refine Au.put (i:=i) (v:= .bool true) ?_ (O K);rw [h,decide_eq_true K]
 ·refine Au.put (i:=i) (v:= .bool false) ?_ (U K);rw [h,decide_eq_false K]
end
end Pal
namespace Pal
open Go Go.Conc
structure Rp (α:Type) where
 n:Nat
 r:LH→List Value→α→Prop
 mono:∀{E E':LH} {ws:List Value} {x:α},Le E E'→r E ws x→r E' ws x
 len:∀{E:LH} {ws:List Value} {x:α},r E ws x→ws.length=n
 one:∀{E:LH} {ws:List Value} {x:α},r E ws x→∀w∈ws,BJ w=true
def rK(kd:IntKind):Rp Int:=⟨1,fun _ ws x=>ws= [.int kd x],fun _ h=>h,fun h=>by subst h;rfl,fun h w hw=>by subst h;simp at hw;subst hw;rfl⟩
abbrev rI:Rp Int:=rK .i64
def rN(kd:IntKind):Rp Nat:=⟨1,fun _ ws x=>ws= [.int kd ((x:Nat):Int)],fun _ h=>h,fun h=>by subst h;rfl,fun h w hw=>by subst h;simp at hw;subst hw;rfl⟩
def rB:Rp Bool:=⟨1,fun _ ws x=>ws= [.bool x],fun _ h=>h,fun h=>by subst h;rfl,fun h w hw=>by subst h;simp at hw;subst hw;rfl⟩
def rP{α β:Type}(p:Rp α)(q:Rp β):Rp (α×β):=⟨p.n+q.n,fun E ws x=>∃U W,ws=U++W∧p.r E U x.1∧q.r E W x.2,
 fun hle ⟨a,b,h,K,O⟩=>⟨a,b,h,p.mono hle K,q.mono hle O⟩,fun⟨a,b,h,K,O⟩=>by subst h;rw [List.length_append,p.len K,q.len O],
 fun⟨a,b,h,K,O⟩ w hw=>by
  subst h
  rcases List.mem_append.1 hw with hw | hw
  ·exact p.one K w hw
  ·exact q.one O w hw⟩
def Ao{α:Type}(p:Rp α)(E:LH)(a:Option Addr)(c:Nat)(xs:List α):Prop:=
 xs.length≤c∧((xs= []∧∀ad:Addr,a=some ad→ad.spot=none)∨∃K off,a=some ⟨K,off,none⟩∧∀(i:Nat) x,xs[i]? =some x→∃ws,p.r E ws x∧At E K (off+i*p.n) ws)
theorem Ao.mono{α:Type}{p:Rp α}{E E':LH}{a:Option Addr}{c:Nat}{xs:List α}(h:Ao p E a c xs)(hle:Le E E'):Ao p E' a c xs:=
 ⟨h.1,h.2.imp id fun⟨K,off,O,U⟩=>⟨K,off,O,fun i x W=>let ⟨ws,Z,aa⟩:=U i x W;⟨ws,p.mono hle Z,aa.mono hle⟩⟩⟩
theorem Ao.nil{α:Type}{p:Rp α}{E:LH}{c:Nat}:Ao p E none c []:=⟨Nat.zero_le _,.inl ⟨rfl,fun _ h=>by cases h⟩⟩
def rL{α:Type}(p:Rp α):Rp (List α):=⟨1,fun E ws xs=>∃a c,ws= [.slice a xs.length c]∧Ao p E a c xs,
 fun hle ⟨a,c,h,K⟩=>⟨a,c,h,K.mono hle⟩,fun⟨a,c,h,K⟩=>by subst h;rfl,fun⟨a,c,h,K⟩ w hw=>by subst h;simp at hw;subst hw;rfl⟩
def TH{α:Type}(p:Rp α):Rp α:=⟨1,fun E ws x=>∃K o us,ws= [.pointer (some ⟨K,o,none⟩)]∧At E K o us∧p.r E us x,
 fun hle ⟨K,o,us,h,O,U⟩=>⟨K,o,us,h,O.mono hle,p.mono hle U⟩,fun⟨K,o,us,h,_,_⟩=>by subst h;rfl,fun⟨K,o,us,h,_,_⟩ w hw=>by subst h;simp at hw;subst hw;rfl⟩
def rA{α:Type}(k:Nat)(p:Rp α):Rp (List α):=⟨k*p.n,fun E ws xs=>xs.length=k∧∃wss:List (List Value),ws=wss.flatten∧wss.length=k∧∀(i:Nat) x us,xs[i]? =some x→wss[i]? =some us→p.r E us x,
 fun hle ⟨U,wss,h,K,O⟩=>⟨U,wss,h,K,fun i x us a b=>p.mono hle (O i x us a b)⟩,
 fun {E ws xs} ⟨U,wss,h,K,O⟩=>by
  subst h
  have:∀(wss:List (List Value)) (xs:List α),xs.length=wss.length→(∀(i:Nat) x us,xs[i]? =some x→wss[i]? =some us→p.r E us x)→wss.flatten.length=wss.length*p.n:=by
   intro wss
   induction wss with
   | nil=>intro xs _ _;simp
   | cons us wss Z=>
    intro xs W h
    cases xs with
    | nil=>simp at W
    | cons x xs=>
     rw [List.flatten_cons,List.length_append,p.len (h 0 x us rfl rfl),Z xs (by simpa using W) (fun i y u a b=>h (i+1) y u a b),List.length_cons,Nat.succ_mul,Nat.add_comm]
  rw [this wss xs (by omega) O,K],
 fun {E ws xs} ⟨U,wss,h,K,O⟩ w hw=>by
  subst h
  obtain⟨us,aa,hw⟩:=List.mem_flatten.1 hw
  obtain⟨i,hi⟩:=List.mem_iff_getElem?.1 aa
  have ab:i<xs.length:=by rw [U,← K];exact(List.getElem?_eq_some_iff.1 hi).1
  exact p.one (O i _ us (List.getElem?_eq_getElem ab) hi) w hw⟩
def ix{α:Type}(xs:List α)(i:Int):Option α:=if 0≤i then xs[i.toNat]? else none
theorem Fc{α:Type}{xs:List α}{i:Int}{x:α}(h:ix xs i=some x):∃m:Nat,i=m∧xs[m]? =some x:=by
 unfold ix at h;split at h
 ·exact⟨i.toNat,by omega,h⟩
 ·cases h
def Ay(x:Int):Option Int:=if -9223372036854775808≤x∧x≤9223372036854775807 then some x else none
theorem Hq{x y:Int}(h:Ay x=some y):y=x∧ -9223372036854775808≤x∧x≤9223372036854775807:=by
 unfold Ay at h;split at h
 ·rename_i hb;exact⟨(Option.some.inj h).symm,hb⟩
 ·cases h
theorem bind_some{α β:Type}{o:Option α}{f:α→Option β}{r:β}(h:o.bind f=some r):∃x,o=some x∧f x=some r:=by
 cases o with
 | none=>cases h
 | some x=>exact⟨x,rfl,h⟩
inductive A8 (S A:Type) where
 | more (s:S)
 | done (a:A)
def iter{S A:Type}(body:S→Option (A8 S A)):Nat→S→Option A
 | 0,_=>none
 | f+1,s=>match body s with
  | none=>none
  | some (.done a)=>some a
  | some (.more s')=>iter body f s'
theorem Mc{S A:Type}{body:S→Option (A8 S A)}{f:Nat}{s:S}{a:A}(h:iter body (f+1) s=some a):∃st,body s=some st:=by
 simp only [iter] at h;cases hb:body s with
 | none=>rw [hb] at h;cases h
 | some st=>exact⟨st,rfl⟩
theorem Ma{S A:Type}{body:S→Option (A8 S A)}{f:Nat}{s:S}{a K:A}(h:iter body (f+1) s=some a)(hb:body s=some (.done K)):K=a:=by
 simp only [iter,hb] at h;exact Option.some.inj h
theorem LV{S A:Type}{body:S→Option (A8 S A)}{f:Nat}{s s':S}{a:A}(h:iter body (f+1) s=some a)(hb:body s=some (.more s')):iter body f s'=some a:=by
 simp only [iter,hb] at h;exact h
abbrev Seg:=List (Nat×Obj)
def Am(E H:LH)(S:List Seg):St:=mk E H S.flatten
def Ax(E H:LH)(S:List Seg):Prop:=Nd E H S.flatten
theorem Nd.mem{E H:LH}:∀{B:List (Nat×Obj)} {b:Nat} {o:Obj},Nd E H B→(b,o)∈B→∃i:Nat,B[i]? =some (b,o):=fun _ h=>List.mem_iff_getElem?.1 h
theorem Nd.iff{E H:LH}:∀{B:List (Nat×Obj)},Nd E H B↔(B.map (·.1)).Nodup∧∀p∈B,E p.1=none∧H p.1=none
 | []=>by simp [Nd]
 | (b,o)::B=>by
  simp only [Nd,List.map_cons,List.nodup_cons,List.mem_cons,forall_eq_or_imp,Nd.iff (B:=B),List.mem_map,not_exists,not_and]
  constructor
  ·rintro⟨K,O,U,W,Z⟩;exact⟨⟨U,W⟩,⟨K,O⟩,Z⟩
  ·rintro⟨⟨U,W⟩,⟨K,O⟩,Z⟩;exact⟨K,O,U,W,Z⟩
theorem Nd.perm{E H:LH}{B B':List (Nat×Obj)}(h:Nd E H B)(K:B.Perm B'):Nd E H B':=by
 rw [Nd.iff] at h ⊢;exact⟨(K.map _).nodup_iff.1 h.1,fun p O=>h.2 p (K.mem_iff.2 O)⟩
theorem Ho{E H:LH}{B B':List (Nat×Obj)}(h:Nd E H B)(K:B.Perm B'):AS B H=AS B' H:=by
 funext x;by_cases O:∃p∈B,p.1=x
 ·obtain⟨⟨b,o⟩,hm,rfl⟩:=O;obtain⟨i,hi⟩:=h.mem hm;obtain⟨j,U⟩:=(h.perm K).mem (K.mem_iff.1 hm);rw [FV h hi,FV (h.perm K) U]
 ·have key:∀{C:List (Nat×Obj)},(∀p∈C,p.1≠x)→AS C H x=H x:=by
   intro C
   induction C with
   | nil=>intro _;rfl
   | cons p C W=>
    intro hC;obtain⟨c,u⟩:=p;have Z:x≠c:=fun e=>hC (c,u) (by simp) e.symm;simp only [AS,if_neg Z];exact W fun p K=>hC p (List.mem_cons_of_mem _ K)
  rw [key fun p K e=>O ⟨p,K,e⟩,key fun p aa e=>O ⟨p,K.mem_iff.2 aa,e⟩]
theorem C3{E H:LH}{B B':List (Nat×Obj)}(h:Nd E H B)(K:B.Perm B'):mk E H B=mk E H B':=by unfold mk;rw [Ho h K]
theorem CB{S:List Seg}{j:Nat}{seg seg':Seg}(h:S[j]? =some seg):S.flatten.Perm ((S.set j []).flatten++seg)∧(S.set j seg').flatten.Perm ((S.set j []).flatten++seg'):=by
 induction S generalizing j with
 | nil=>simp at h
 | cons x S K=>
  cases j with
  | zero=>
   simp at h;subst h;simp only [List.set_cons_zero,List.flatten_cons,List.nil_append];exact⟨List.perm_append_comm,List.perm_append_comm⟩
  | succ j=>
   simp at h;obtain⟨O,U⟩:=K h;simp only [List.set_cons_succ,List.flatten_cons,List.append_assoc];exact⟨O.append_left x,U.append_left x⟩
theorem Eu{E H:LH}{S:List Seg}{j:Nat}{seg:Seg}(K:Ax E H S)(h:S[j]? =some seg):Am E H S=mk E H ((S.set j []).flatten++seg)∧Nd E H ((S.set j []).flatten++seg):=
 ⟨C3 K (CB (seg':=seg) h).1,Nd.perm K (CB (seg':=seg) h).1⟩
theorem FB{E H:LH}{S:List Seg}{j:Nat}{seg seg':Seg}(h:S[j]? =some seg)(K:Nd E H ((S.set j []).flatten++seg')):mk E H ((S.set j []).flatten++seg')=Am E H (S.set j seg')∧Ax E H (S.set j seg'):=
 ⟨C3 K (CB h).2.symm,Nd.perm K (CB h).2.symm⟩
theorem Er(S:List Seg)(seg:Seg):(S++ [seg]).flatten=S.flatten++seg:=by simp
theorem Db{E H:LH}{S:List Seg}{seg:Seg}(K:Nd E H (S.flatten++seg)):mk E H (S.flatten++seg)=Am E H (S++ [seg])∧Ax E H (S++ [seg]):=by
 unfold Am Ax;rw [Er];exact⟨rfl,K⟩
theorem CV{E H:LH}{S:List Seg}{j i K:Nat}{seg:Seg}{o:Obj}(O:Ax E H S)(U:S[j]? =some seg)(hi:seg[i]? =some (K,o)):(Am E H S).get K=some o:=by
 have hm:(K,o)∈S.flatten:=List.mem_flatten.2 ⟨seg,List.mem_of_getElem? U,List.mem_of_getElem? hi⟩;obtain⟨Z,W⟩:=O.mem hm;exact JN O W
theorem CH{E H:LH}{S:List Seg}{j K off:Nat}{c:Array Value}{e:TypeId}{f:Nat×Nat}{v:Value}{seg:Seg}(O:Ax E H S)(U:S[j]? =some ((K,.cells c e f)::seg))(W:c[off]? =some v):(Am E H S).cell? ⟨K,off,none⟩=some v:=by
 unfold St.cell?;rw [CV (i:=0) O U rfl];exact W
theorem O7{E H:LH}{S:List Seg}{j K off:Nat}{c:Array Value}{e:TypeId}{f:Nat×Nat}{vs:List Value}{seg:Seg}(O:Ax E H S)(U:S[j]? =some ((K,.cells c e f)::seg))(W:∀i v,vs[i]? =some v→c[off+i]? =some v):∀i v,vs[i]? =some v→(Am E H S).cell? (Addr.add ⟨K,off,none⟩ i)=some v:=fun i v hi=>by
 rw [Bd rfl];exact CH O U (W i v hi)
def OL{α:Type}(e:TypeId)(p:Rp α)(E:LH)(a:Option Addr)(c:Nat)(seg:Seg)(xs:List α):Prop:=
 ∃wss:List (List Value),GS e p.n a xs.length c seg wss.flatten∧wss.length=xs.length∧∀(i:Nat) x ws,xs[i]? =some x→wss[i]? =some ws→p.r E ws x
theorem OL.mono{α:Type}{e:TypeId}{p:Rp α}{E E':LH}{a:Option Addr}{c:Nat}{seg:Seg}{xs:List α}(h:OL e p E a c seg xs)(hle:Le E E'):OL e p E' a c seg xs:=
 let ⟨wss,K,O,U⟩:=h;⟨wss,K,O,fun i x ws W hw=>p.mono hle (U i x ws W hw)⟩
theorem OL.nil{α:Type}{e:TypeId}{p:Rp α}{E:LH}:OL e p E none 0 [] []:=⟨[],GS.nil,rfl,fun i x ws K=>by simp at K⟩
theorem FW{α:Type}{p:Rp α}{E:LH}{wss:List (List Value)}{xs:List α}(K:wss.length=xs.length)(h:∀(i:Nat) x ws,xs[i]? =some x→wss[i]? =some ws→p.r E ws x):∀ws∈wss,ws.length=p.n:=fun ws hw=>by
 obtain⟨i,hi⟩:=List.mem_iff_getElem?.1 hw
 have O:i<xs.length:=by rw [← K];exact(List.getElem?_eq_some_iff.1 hi).1
 exact p.len (h i _ ws (List.getElem?_eq_getElem O) hi)
theorem GJ{α:Type}{n:Nat}:∀{wss:List (List α)},(∀ws∈wss,ws.length=n)→∀{i:Nat} {ws:List α},wss[i]? =some ws→∀j w,ws[j]? =some w→wss.flatten[i*n+j]? =some w
 | [],_,_,_,h,_,_,_=>by simp at h
 | us::wss,O,0,ws,h,j,w,K=>by
  simp at h;subst h
  have:j<us.length:=(List.getElem?_eq_some_iff.1 K).1
  simp only [List.flatten_cons,Nat.zero_mul,Nat.zero_add]
  rw [List.getElem?_append_left this];exact K
 | us::wss,O,i+1,ws,h,j,w,K=>by
  simp at h
  have hu:us.length=n:=O us (by simp)
  simp only [List.flatten_cons]
  rw [List.getElem?_append_right (by rw [hu,Nat.succ_mul];omega)]
  have e:(i+1)*n+j - us.length=i*n+j:=by rw [hu,Nat.succ_mul];omega
  rw [e];exact GJ (fun ws hw=>O ws (List.mem_cons_of_mem _ hw)) h j w K
end Pal
namespace Pal
open Go Go.Conc
section
variable {P:Program}{s:St}{ρ:Operand→Value}{x y z:Operand}{d:Option Tmp}{t u ty e:TypeId}{p:String}{af:Array Edge}{g:Option (Nat×Bool)}{v:Value}{kd kd':IntKind}{m m':Int}{a b:Nat}
theorem K0{a:Nat}:IntKind.u64.wrap (a:Int)=((a % 2 ^ 64:Nat):Int):=by
 simp only [IntKind.wrap,IntKind.bits,IntKind.signed];simp
theorem Yl.Tj(K:ρ x= .int .u64 (a:Int))(O:ρ y= .int .u64 (b:Int)):Yl P ⟨d,.binOp .add t x y u,ty,p,af,g⟩ ρ s (.int .u64 (((a+b) % 2 ^ 64:Nat):Int)):=by
 have h:=Yl.add (P:=P) (s:=s) (d:=d) (t:=t) (u:=u) (ty:=ty) (p:=p) (af:=af) (g:=g) K O;rw [show((a:Int)+(b:Int))=((a+b:Nat):Int) by omega,K0] at h;exact h
theorem Yl.Jv(K:ρ x= .int .u64 (a:Int))(O:ρ y= .int .u64 (b:Int)):Yl P ⟨d,.binOp .mul t x y u,ty,p,af,g⟩ ρ s (.int .u64 (((a*b) % 2 ^ 64:Nat):Int)):=by
 have h:=Yl.mul (P:=P) (s:=s) (d:=d) (t:=t) (u:=u) (ty:=ty) (p:=p) (af:=af) (g:=g) K O;rw [show((a:Int)*(b:Int))=((a*b:Nat):Int) by rw [Int.natCast_mul],K0] at h;exact h
theorem Yl.Jw(K:ρ x= .int .u64 (a:Int))(O:ρ y= .int .u64 (b:Int)):Yl P ⟨d,.binOp .xor t x y u,ty,p,af,g⟩ ρ s (.int .u64 (((a ^^^ b) % 2 ^ 64:Nat):Int)):=by
 have h:=Yl.xor (P:=P) (s:=s) (d:=d) (t:=t) (u:=u) (ty:=ty) (p:=p) (af:=af) (g:=g) K O;have e:(BitVec.ofInt IntKind.u64.bits (a:Int) ^^^ BitVec.ofInt IntKind.u64.bits (b:Int)).toNat=(a ^^^ b) % 2 ^ 64:=by
  rw [Nat.xor_mod_two_pow];rw [BitVec.ofInt_natCast,BitVec.ofInt_natCast];show(BitVec.ofNat 64 a ^^^ BitVec.ofNat 64 b).toNat=_;rw [BitVec.toNat_xor,BitVec.toNat_ofNat,BitVec.toNat_ofNat]
 rw [e,K0,Nat.mod_mod] at h;exact h
theorem Yl.Tk(K:ρ x= .int .u64 (a:Int))(O:ρ y= .int .u64 (b:Int))(U:b≠0):Yl P ⟨d,.binOp .rem t x y u,ty,p,af,g⟩ ρ s (.int .u64 ((a % b:Nat):Int)):=by
 have h:=Yl.rem (P:=P) (s:=s) (d:=d) (t:=t) (u:=u) (ty:=ty) (p:=p) (af:=af) (g:=g) K O (by omega);rw [show(a:Int).tmod (b:Int)=((a % b:Nat):Int) from rfl] at h;exact h
theorem Yl.Hf(c:Nat)(K:ρ x= .int .u64 (a:Int))(O:ρ y= .int .u64 (c:Int))(W:c≤64):Yl P ⟨d,.binOp .shr t x y u,ty,p,af,g⟩ ρ s (.int .u64 ((a>>>c:Nat):Int)):=by
 have h:=Yl.shr (P:=P) (s:=s) (d:=d) (t:=t) (u:=u) (ty:=ty) (p:=p) (af:=af) (g:=g) K O (by omega);have e:min (c:Int).toNat IntKind.u64.bits=c:=by simp [IntKind.bits];omega
 rw [e,Int.fdiv_eq_ediv_of_nonneg _ (Int.pow_nonneg (by decide))] at h;have U:(a:Int) / 2 ^ c=((a>>>c:Nat):Int):=by rw [Nat.shiftRight_eq_div_pow,Int.natCast_ediv];rfl
 rw [U] at h;exact h
def Ca(m:Int):Nat:=(m % 2 ^ 64).toNat
def GB(a:Nat):Int:=IntKind.i64.wrap (a:Int)
theorem Yl.Ca(ht:P.underlying t=some (.int .i64))(hu:P.underlying u=some (.int .u64))(K:ρ x=iV m):Yl P ⟨d,.convert t u x,ty,p,af,g⟩ ρ s (.int .u64 ((Ca m:Nat):Int)):=by
 have h:=Yl.conv (P:=P) (s:=s) (d:=d) (ty:=ty) (p:=p) (af:=af) (g:=g) ht hu K
 have e:IntKind.u64.wrap m=((Pal.Ca m:Nat):Int):=by
  unfold Pal.Ca;simp only [IntKind.wrap,IntKind.bits,IntKind.signed];simp;omega
 rw [e] at h;exact h
theorem Yl.GB(ht:P.underlying t=some (.int .u64))(hu:P.underlying u=some (.int .i64))(K:ρ x= .int .u64 (a:Int)):Yl P ⟨d,.convert t u x,ty,p,af,g⟩ ρ s (iV (GB a)):=
 Yl.conv (P:=P) (s:=s) (d:=d) (ty:=ty) (p:=p) (af:=af) (g:=g) ht hu K
theorem Yl.A6{r:Int}(K:ρ x=iV m)(O:ρ y=iV m')(h:Ay (m+m')=some r):Yl P ⟨d,.binOp .add t x y u,ty,p,af,g⟩ ρ s (iV r):=by
 obtain⟨rfl,hb⟩:=Hq h;exact Yl.Tl K O hb
theorem Yl.Ba{r:Int}(K:ρ x=iV m)(O:ρ y=iV m')(h:Ay (m - m')=some r):Yl P ⟨d,.binOp .sub t x y u,ty,p,af,g⟩ ρ s (iV r):=by
 obtain⟨rfl,hb⟩:=Hq h;exact Yl.Te K O hb
theorem Yl.mulC{r:Int}(K:ρ x=iV m)(O:ρ y=iV m')(h:Ay (m*m')=some r):Yl P ⟨d,.binOp .mul t x y u,ty,p,af,g⟩ ρ s (iV r):=by
 obtain⟨rfl,hb⟩:=Hq h;exact Yl.To K O hb
theorem Yl.Gw{q:Prop} [Decidable q] (K:ρ x= .bool (decide q)):Yl P ⟨d,.unOp .not t x,ty,p,af,g⟩ ρ s (.bool (decide (¬q))):=by
 have h:=Yl.not (P:=P) (s:=s) (d:=d) (t:=t) (ty:=ty) (p:=p) (af:=af) (g:=g) K;simpa using h
theorem Po{K:Array (Nat×Operand)}:execOp ρ ⟨d,.build t K,ty,p,af,g⟩=(do pure (Next.value (← Instr.build t (K.map fun(j,x)=>(j,ρ x))))):=by
 simp only [execOp]
theorem Yl.build{z:Value}{O:Array Field}{K:Array (Nat×Operand)}{vs:List (Nat×Value)}{places:Array (Nat×Nat)}{cells:Array Value}(Z:zeroOf P t=some z)(ht:P.underlying t=some (.struct O))(aa:O.toList.mapM (fun f=>(Bj P f.type).map fun n=>(f.offset,n))=some places.toList)
  (ab:K.toList.map (fun(j,x)=>(j,ρ x))=vs) (ae:Instr.fill (places[·]?) z.cells vs=some cells):Yl P ⟨d,.build t K,ty,p,af,g⟩ ρ s (.agg cells):=by
 refine Yl.DL Po ?_;unfold Instr.build;refine AD (x:=zeroValue t) _ (D9 Z ?_);refine AD _ _ (Ck ht ?_);simp only;have key:∀(l:List Field) (acc:List (Nat×Nat)) {Q:List (Nat×Nat)→St→Prop} {X:Halt→St→Prop} (K:List (Nat×Nat)),l.mapM (fun f=>(Bj P f.type).map fun n=>(f.offset,n))=some K→Q (acc.reverse++K) s→lp P (List.mapM.loop (m:=Sem) (fun f=>do pure (f.offset,← Go.sizeOf f.type)) l acc) s Q X:=by
  intro l
  induction l with
  | nil=>
   intro acc Q X K h k;simp at h;subst h;simp only [List.append_nil] at k;exact k
  | cons f l ag=>
   intro acc Q X K h k;simp only [List.mapM_cons,bind] at h;cases U:Bj P f.type with
   | none=>rw [U] at h;simp at h
   | some n=>
    rw [U] at h;simp only [Option.map_some,Option.bind_some] at h;obtain⟨ah,ai,W⟩:=bind_some h;simp at W;subst W;have:=ag ((f.offset,n)::acc) (Q:=Q) (X:=X) ah ai (by simpa using k);simp only [List.mapM.loop];exact AD _ _ (AD (x:=Go.sizeOf f.type) _ (Di U this))
 have e:(K.map fun(j,x)=>(j,ρ x)).toList=vs:=by rw [← ab,Array.toList_map]
 refine AD _ _ ?_;rw [Array.mapM_eq_mapM_toList];refine AD (x:=List.mapM.loop (m:=Sem) (fun f=>do pure (f.offset,← Go.sizeOf f.type)) O.toList []) (f:=fun r=>pure r.toArray) (key O.toList [] places.toList aa ?_)
 simp only [List.reverse_nil,List.nil_append,lp,pure];rw [e,ae];exact⟨rfl,rfl⟩
end
end Pal
namespace Pal
open Go Go.Conc
section
variable {P:Program}{J:Judge P}{Q:Goroutine→St→Prop}{b:Frame}{n:Nat}{ds:List Deferred}{ops:Array Oper}{k:List Item}{cs:List Frame}{L:Env}{s:St}{E E' H:LH}{S:List Seg}
variable {d:Option Tmp}{x y:Operand}{t u ty e:TypeId}{p:String}{af:Array Edge}{g:Option (Nat×Bool)}{v:Value}{i:Nat}{rest:List Nat}{kd:IntKind}
theorem JS.box(O:ops[i]? =some ⟨d,.box e x,ty,p,af,g⟩)(hw:AU L ops ⟨d,.box e x,ty,p,af,g⟩=some true)(U:BR b n ⟨d,.box e x,ty,p,af,g⟩=true)(W:Ax E H S)(Z:ev L x=some v)
  (h:∀r,Ax E H (S++ [[(r,.cells v.cells e (0,0))]])→JL J Q b n (AE L d (.pointer (some ⟨r,0,none⟩))) ds (.inRegion ops rest::k) cs (Am E H (S++ [[(r,.cells v.cells e (0,0))]]))):
  JL J Q b n L ds (.inRegion ops (i::rest)::k) cs (Am E H S):=
 JL.box O hw U W Z fun r K=>by rw [(Db K).1];exact h r (Db K).2
theorem JS.alloc{z:Value}(O:ops[i]? =some ⟨d,.alloc e,ty,p,af,g⟩)(hw:AU L ops ⟨d,.alloc e,ty,p,af,g⟩=some true)(U:BR b n ⟨d,.alloc e,ty,p,af,g⟩=true)(W:Ax E H S)(Z:zeroOf P e=some z)
  (h:∀r,Ax E H (S++ [[(r,.cells z.cells e (0,0))]])→JL J Q b n (AE L d (.pointer (some ⟨r,0,none⟩))) ds (.inRegion ops rest::k) cs (Am E H (S++ [[(r,.cells z.cells e (0,0))]]))):
  JL J Q b n L ds (.inRegion ops (i::rest)::k) cs (Am E H S):=
 JL.alloc O hw U W Z fun r K=>by rw [(Db K).1];exact h r (Db K).2
theorem JS.store{K off:Nat}{c:Array Value}(j:Nat)(W:ops[i]? =some ⟨d,.store t x y,ty,p,af,g⟩)(hw:AU L ops ⟨d,.store t x y,ty,p,af,g⟩=some true)(Z:BR b n ⟨d,.store t x y,ty,p,af,g⟩=true)(aa:Ax E H S)
  (ab:ev L x=some (.pointer (some ⟨K,off,none⟩))) (ae:ev L y=some v) (ag:Bj P t=some v.cells.size) (ah:∀u∈v.cells.toList,BJ u=true) (O:S[j]? =some [(K,.cells c e (0,0))]) (hle:off+v.cells.size≤c.size)
  (h:Ax E H (S.set j [(K,.cells (A0 c off v.cells.toList) e (0,0))])→JL J Q b n (AE L d undef) ds (.inRegion ops rest::k) cs (Am E H (S.set j [(K,.cells (A0 c off v.cells.toList) e (0,0))]))):
  JL J Q b n L ds (.inRegion ops (i::rest)::k) cs (Am E H S):=by
 obtain⟨ai,aj⟩:=Eu aa O;rw [ai];refine JL.store (S.set j []).flatten.length W hw Z aj ab ae ag ah (c:=c) (e:=e) (by simp) hle fun U=>?_;have ak:((S.set j []).flatten++ [(K,Obj.cells c e (0,0))]).set (S.set j []).flatten.length (K,.cells (A0 c off v.cells.toList) e (0,0))=(S.set j []).flatten++ [(K,.cells (A0 c off v.cells.toList) e (0,0))]:=FZ _ _ _ _;rw [ak] at U ⊢;obtain⟨al,am⟩:=FB O U;rw [al];exact h am
theorem JS.drop{todo:List Item}{seg:Seg}(j:Nat)(W:Ax E H S)(K:S[j]? =some seg)(h:Ax E H (S.set j [])→JL J Q b n L ds todo cs (Am E H (S.set j []))):JL J Q b n L ds todo cs (Am E H S):=by
 obtain⟨Z,O⟩:=Eu W K;rw [Z];have aa:Nd E H ((S.set j []).flatten++ []):=by rw [List.append_nil];exact JL.FY.Nd.left O
 obtain⟨U,ab⟩:=FB (seg':= []) K aa;refine JL.drop (S.set j []).flatten (fun q ae=>List.mem_iff_getElem?.1 (List.mem_append_left _ ae)) O ?_;have ag:(S.set j []).flatten++ []=(S.set j []).flatten:=List.append_nil _;rw [ag] at U;rw [U];exact h ab
theorem JS.Bo{todo:List Item}{K:Nat}{c:Array Value}{f:Nat×Nat}(j:Nat)(U:Ax E H S)(W:S[j]? =some [(K,.cells c e f)])
  (h:∀E',Le E E'→At E' K 0 c.toList→Ax E' H (S.set j [])→JL J Q b n L ds todo cs (Am E' H (S.set j []))):JL J Q b n L ds todo cs (Am E H S):=by
 obtain⟨Z,aa⟩:=Eu U W;rw [Z];have ab:((S.set j []).flatten++ [(K,Obj.cells c e f)])[(S.set j []).flatten.length]? =some (K,Obj.cells c e f):=by simp
 refine JL.freeze (S.set j []).flatten.length aa ab fun E' hle ae O=>?_;have ag:((S.set j []).flatten++ [(K,Obj.cells c e f)]).eraseIdx (S.set j []).flatten.length=(S.set j []).flatten:=by rw [List.eraseIdx_append_of_length_le (Nat.le_refl _)];simp
 rw [ag] at O ⊢;exact h E' hle ⟨_,_,_,ae,fun i w hi=>by simpa using hi⟩ O
theorem JS.BO{α:Type}{pp:Rp α}{todo:List Item}{a:Option Addr}{c:Nat}{seg:Seg}{xs:List α}(j:Nat)(O:OL e pp E a c seg xs)(ah:Ax E H S)(ai:S[j]? =some seg)
  (h:∀E',Le E E'→Ao pp E' a c xs→Ax E' H (S.set j [])→JL J Q b n L ds todo cs (Am E' H (S.set j []))):JL J Q b n L ds todo cs (Am E H S):=by
 obtain⟨wss,O,aa,ab⟩:=O;have aj:∀ad:Addr,a=some ad→ad.spot=none:=fun ad U=>by
  rcases O with⟨K,_⟩ | ⟨ae,f,K,_⟩
  ·rw [K] at U;cases U
  ·rw [K] at U;cases U;rfl
 obtain⟨K,ak⟩:=Eu ah ai;rw [K];refine JL.Qh O ak fun E' hle al am=>h E' hle ?_ am;obtain⟨an,ao,W,ap,ay,Z⟩:=al;obtain⟨rfl,-,rfl⟩:a=an∧xs.length=xs.length∧c=ao:=by
  simp only [Value.slice.injEq] at W;exact⟨W.1,rfl,W.2.2⟩
 refine⟨ap,?_⟩;rcases Z with Z | ⟨ae,off,f,aq,fr,ar,au,av⟩
 ·exact .inl ⟨List.eq_nil_of_length_eq_zero Z,aj⟩
 ·refine .inr ⟨ae,off,ar,fun i x ag=>?_⟩;have aw:i<wss.length:=by rw [aa];exact(List.getElem?_eq_some_iff.1 ag).1
  have hw:=List.getElem?_eq_getElem aw;refine⟨wss[i],pp.mono hle (ab i x _ ag hw),f,aq,fr,au,fun m w hm=>?_⟩;rw [Nat.add_assoc];exact av _ w (GJ (FW aa ab) hw m w hm)
theorem OP{α:Type}{pp:Rp α}{wss:List (List Value)}{xs:List α}{x:α}{ws:List Value}(O:wss.length=xs.length)(h:∀(i:Nat) x ws,xs[i]? =some x→wss[i]? =some ws→pp.r E ws x)(U:pp.r E ws x):
  ∀(i:Nat) y us,(xs++ [x])[i]? =some y→(wss++ [ws])[i]? =some us→pp.r E us y:=by
 intro i y us K hu;rcases Nat.lt_or_ge i xs.length with hi | hi
 ·rw [List.getElem?_append_left hi] at K;rw [List.getElem?_append_left (by omega)] at hu;exact h i y us K hu
 ·rw [List.getElem?_append_right hi] at K;rw [List.getElem?_append_right (by omega),O] at hu;cases hm:i - xs.length with
  | zero=>rw [hm] at K hu;simp at K hu;subst K hu;exact U
  | succ m=>rw [hm] at K;simp at K
theorem JS.IT{α:Type}{pp:Rp α}{t1 t2:TypeId}{U c:Nat}{a:Option Addr}{seg:Seg}{xs:List α}{xv:α}{ag:Nat}{d1:Tmp}{ats:Array TypeId}{W:TypeId}{Z:String}{aa:Array Edge}{g':Option (Nat×Bool)}{z:Value}(j:Nat)
  (aj:ops[i]? =some ⟨some d1,.buildSlice t2 1 #[(0,y)],W,Z,aa,g'⟩) (hw:AU L ops ⟨some d1,.buildSlice t2 1 #[(0,y)],W,Z,aa,g'⟩=some true) (ak:BR b n ⟨some d1,.buildSlice t2 1 #[(0,y)],W,Z,aa,g'⟩=true)
  (al:ops[ag]? =some ⟨d,.call ⟨.builtin .append,#[x,.tmp d1],ats⟩,ty,p,af,g⟩) (am:∀w,AU (AE L (some d1) w) ops ⟨d,.call ⟨.builtin .append,#[x,.tmp d1],ats⟩,ty,p,af,g⟩=some true) (an:BR b n ⟨d,.call ⟨.builtin .append,#[x,.tmp d1],ats⟩,ty,p,af,g⟩=true)
  (ao:∀w,ev (AE L (some d1) w) x=some (.slice a xs.length c)) (ap:ev L y=some v) (aq:ats[0]? =some t) (ar:ats[1]? =some t1) (ht:P.underlying t=some (.slice e)) (au:P.underlying t1=some (.slice e)) (av:P.underlying t2=some (.slice e)) (aw:Bj P e=some pp.n) (hb:Dc P e=some U) (ay:zeroOf P e=some z) (az:z.cells.size=pp.n)
  (aA:0<U) (aB:U≤64) (aC:0<pp.n) (aD:pp.n≤64) (aE:xs.length+1≤2 ^ 40) (ab:OL e pp E a c seg xs) (ae:pp.r E v.cells.toList xv) (aF:Ax E H S) (ah:S[j]? =some seg)
  (h:∀w K O seg',OL e pp E K O seg' (xs++ [xv])→Ax E H (S.set j seg')→JL J Q b n (AE (AE L (some d1) w) d (.slice K (xs++ [xv]).length O)) ds (.inRegion ops rest::k) cs (Am E H (S.set j seg'))):
  JL J Q b n L ds (.inRegion ops (i::ag::rest)::k) cs (Am E H S):=by
 obtain⟨wss,ab,ai,aG⟩:=ab;obtain⟨aH,aI⟩:=Eu aF ah;rw [aH];have aJ:v.cells.size=pp.n:=by simpa using pp.len ae
 refine JL.IT aj hw ak al am an ao ap aq ar ht au av aw hb ay az aA aB aJ aC aD aE (pp.one ae) ab aI fun w K O aK aL aM=>?_;obtain⟨aN,aO⟩:=FB ah aM;rw [aN];have hlen:(xs++ [xv]).length=xs.length+1:=by simp
 have:=h w K O aK ⟨wss++ [v.cells.toList],by rw [hlen,List.flatten_append];simpa using aL,by simp [ai],OP ai aG ae⟩ aO;rw [hlen] at this;exact this
theorem JS.BV{α:Type}{pp:Rp α}{a:Option Addr}{c:Nat}{xs:List α}{xv:α}{m:Int}(U:Ao pp E a c xs)(hm:ix xs m=some xv)
  (W:ops[i]? =some ⟨d,.indexAddr t x y,ty,p,af,g⟩) (hw:AU L ops ⟨d,.indexAddr t x y,ty,p,af,g⟩=some true) (Z:BR b n ⟨d,.indexAddr t x y,ty,p,af,g⟩=true)
  (aa:ev L x=some (.slice a xs.length c)) (ab:ev L y=some (.int kd m)) (ht:P.underlying t=some (.slice e)) (ae:Bj P e=some pp.n)
  (h:∀K o ws,pp.r E ws xv→At E K o ws→JL J Q b n (AE L d (.pointer (some ⟨K,o,none⟩))) ds (.inRegion ops rest::k) cs (Am E H S)):
  JL J Q b n L ds (.inRegion ops (i::rest)::k) cs (Am E H S):=by
 obtain⟨m,rfl,hm⟩:=Fc hm;have ag:m<xs.length:=(List.getElem?_eq_some_iff.1 hm).1;obtain⟨ak,⟨rfl,_⟩ | ⟨K,off,rfl,ah⟩⟩:=U
 ·simp at ag
 obtain⟨ws,ai,aj⟩:=ah m xv hm;refine JL.y (v:= .pointer (some ⟨K,off+m*pp.n,none⟩)) W hw Z (fun ρ O=>?_) (h K _ ws ai aj);have:=Yl.HB (P:=P) (s:=Am E H S) (d:=d) (ty:=ty) (p:=p) (af:=af) (g:=g) ht ae (O x _ aa) (O y _ ab) ⟨by omega,by omega⟩;rw [Bd rfl] at this;simpa using this
theorem At.Oa{K o j:Nat}{ws:List Value}{w:Value}(h:At E K o ws)(O:ws[j]? =some w):(Am E H S).cell? ⟨K,o+j,none⟩=some w:=h.cell O
theorem At.Ry{K o:Nat}{ws:List Value}(h:At E K o ws):∀j v,ws[j]? =some v→(Am E H S).cell? (Addr.add ⟨K,o,none⟩ j)=some v:=h.cells
theorem JL.join{todo:List Item}(I:Env→St→Prop){c:Code}(K:∀L s,I L s→JL J Q b n L ds todo cs s)(h:(∀L s,I L s→JL J Q b n L ds todo cs s)→JL J Q b n L ds (.code c::todo) cs s):JL J Q b n L ds (.code c::todo) cs s:=h K
theorem JL.BM{K:List Nat}{todo:List Item}(l:List Nat)(I:Env→St→Prop)(O:∀L s,I L s→JL J Q b n L ds (.inRegion ops l::todo) cs s)(h:(∀L s,I L s→JL J Q b n L ds (.inRegion ops l::todo) cs s)→JL J Q b n L ds (.inRegion ops K::todo) cs s):JL J Q b n L ds (.inRegion ops K::todo) cs s:=h O
theorem JL.Bq{K A:Type}{c:Code}{body:K→Option (A8 K A)}{f:Nat}{O:K}{a:A}(U:iter body f O=some a)(I:Env→St→K→Prop)(Z:I L s O)
  (round:∀L s x,I L s x→(∀W,body x=some (.done W)→W=a)→(∃st,body x=some st)→(∀L' s' x',I L' s' x'→body x=some (.more x')→JL J Q b n L' ds (.inLoop c::k) cs s')→JL J Q b n L ds (.code c:: .inLoop c::k) cs s):
  JL J Q b n L ds (.code (.loop c)::k) cs s:=by
 refine JL.G4 ?_
 induction f generalizing L s O with
 | zero=>cases U
 | succ f aa=>
  refine round L s O Z (fun W h=>Ma U h) (Mc U) fun L' s' x' ab hb=>JL.again (aa (LV U hb) ab)
def As(J:Judge P)(f:FuncId)(args:List Value)(E:LH)(B:Seg)(R:Value→LH→Seg→Prop):Prop:=
 ∀H,Nd E H B→Cz J f args.toArray (mk E H B) (fun v s'=>∃E' B',Le E E'∧R v E' B'∧Nd E' H B'∧s'=mk E' H B')
theorem As.enter{f:FuncId}{fn:Func}{c:Code}{vs:List Value}{B:Seg}{R:Value→LH→Seg→Prop}(O:P.funcs[f]? =some fn)(hb:fn.body=some c)(U:vs.length≤fn.ntmps)
  (h:∀(Q:Goroutine→St→Prop) (K:Frame) (cs:List Frame) (H:LH),Ax E H [B]→(∀v E' S' B',Le E E'→S'.flatten=B'→R v E' B'→Ax E' H S'→J.ok Q (G (K.finish v) cs) (Am E' H S'))→JL J Q (base f) fn.ntmps (D5 0 vs) [] [.code c] (K::cs) (Am E H [B])):As J f vs E B R:=fun H W=>
 Cz.enter O hb U fun Q K cs Z=>by
  have aa:mk E H B=Am E H [B]:=by unfold Am;simp
  rw [aa];exact h Q K cs H (by unfold Ax;simpa using W) fun v E' S' B' hle ab ae ag=>by
   subst ab;exact Z v _ ⟨E',S'.flatten,hle,ae,ag,rfl⟩
theorem As.mono{f:FuncId}{vs:List Value}{B:Seg}{R K:Value→LH→Seg→Prop}(h:As J f vs E B R)(U:∀v E' B',Le E E'→R v E' B'→K v E' B'):As J f vs E B K:=fun H W=>
 (h H W).mono fun v s' ⟨E',B',O,Z,aa,ab⟩=>⟨E',B',O,U v E' B' O Z,aa,ab⟩
theorem Ds{H:LH}:∀{A B:List (Nat×Obj)},AS (A++B) H=AS A (AS B H)
 | [],_=>rfl
 | (c,o)::A,B=>by
  funext x
  simp only [List.cons_append,AS]
  split
  ·rfl
  ·rw [Ds]
theorem Hr{H:LH}{x:Nat}:∀{B:List (Nat×Obj)},(∀p∈B,p.1≠x)→AS B H x=H x
 | [],_=>rfl
 | (c,u)::B,K=>by
  have O:x≠c:=fun e=>K (c,u) (by simp) e.symm
  simp only [AS,if_neg O]
  exact Hr fun p U=>K p (List.mem_cons_of_mem _ U)
theorem Nd.front{A B:List (Nat×Obj)}(h:Nd E H (A++B)):Nd E (AS B H) A:=by
 rw [Nd.iff] at h ⊢;obtain⟨K,U⟩:=h;rw [List.map_append,List.nodup_append] at K;refine⟨K.1,fun q O=>⟨(U q (List.mem_append_left _ O)).1,?_⟩⟩;rw [Hr fun r W e=>K.2.2 q.1 (List.mem_map_of_mem O) r.1 (List.mem_map_of_mem W) e.symm];exact(U q (List.mem_append_left _ O)).2
theorem Nd.glue{A B:List (Nat×Obj)}(h:Nd E (AS B H) A)(U:Nd E H B):Nd E H (A++B):=by
 have W:=U;rw [Nd.iff] at h U ⊢;rw [List.map_append,List.nodup_append];have key:∀q∈A,∀r∈B,q.1≠r.1:=fun q K r O e=>by
  have:=(h.2 q K).2;rw [e] at this;obtain⟨i,hi⟩:=W.mem (b:=r.1) (o:=r.2) O;rw [FV W hi] at this;cases this
 refine⟨⟨h.1,U.1,fun x Z y aa e=>?_⟩,fun q K=>?_⟩
 ·obtain⟨q,K,rfl⟩:=List.mem_map.1 Z;obtain⟨r,O,rfl⟩:=List.mem_map.1 aa;exact key q K r O e
 ·rcases List.mem_append.1 K with K | K
  ·refine⟨(h.2 q K).1,?_⟩;have:=(h.2 q K).2
   rwa [Hr fun r O e=>key q K r O e.symm] at this
  ·exact U.2 q K
theorem JS.KH{f:FuncId}{args:Array Operand}{ats:Array TypeId}{vs:List Value}{seg:Seg}{R:Value→LH→Seg→Prop}(j:Nat)
  (ab:As J f vs E seg R) (ae:ops[i]? =some ⟨d,.call ⟨.value (.func f),args,ats⟩,ty,p,af,g⟩) (hw:AU L ops ⟨d,.call ⟨.value (.func f),args,ats⟩,ty,p,af,g⟩=some true) (ag:((b.kind != .early)&&Bb n d)=true) (hb:Cv P f=true)
  (ah:evs L args.toList=some vs) (K:Ax E H S) (O:S[j]? =some seg) (ai:∀v E' seg',Le E E'→R v E' seg'→Ax E' H (S.set j seg')→JL J Q b n (AE L d v) ds (.inRegion ops rest::k) cs (Am E' H (S.set j seg'))):
  JL J Q b n L ds (.inRegion ops (i::rest)::k) cs (Am E H S):=by
 have U:S.flatten.Perm (seg++(S.set j []).flatten):=(CB (seg':=seg) O).1.trans List.perm_append_comm;have W:Nd E H (seg++(S.set j []).flatten):=Nd.perm K U;have aj:Am E H S=mk E (AS (S.set j []).flatten H) seg:=by
  rw [show Am E H S=mk E H S.flatten from rfl,C3 K U];unfold mk;rw [Ds]
 rw [aj];refine JL.S6 ae hw ag hb ah (ab _ (Nd.front W)) ?_;rintro v s' ⟨E',B',hle,ak,al,rfl⟩;have am:mk E' (AS (S.set j []).flatten H) B'=mk E' H (B'++(S.set j []).flatten):=by unfold mk;rw [Ds]
 have an:Nd E H (S.set j []).flatten:=by
  have:=W;rw [Nd.iff] at this ⊢;rw [List.map_append,List.nodup_append] at this;exact⟨this.1.2.1,fun q ao=>this.2 q (List.mem_append_right _ ao)⟩
 refine JL.Fp rfl fun⟨w,ap⟩=>?_;have aq:Nd E' H (S.set j []).flatten:=an.grow fun x ar=>by
  have au:=ap.d x ar;have av:AS B' (AS (S.set j []).flatten H) x=none:=au;exact(Ep av).1
 have Z:Nd E' H (B'++(S.set j []).flatten):=Nd.glue al aq;rw [am];have aa:(B'++(S.set j []).flatten).Perm (S.set j B').flatten:=List.perm_append_comm.trans (CB O).2.symm;rw [C3 Z aa];exact ai v E' B' hle ak (Nd.perm Z aa)
theorem JS.call{f:FuncId}{args:Array Operand}{ats:Array TypeId}{vs:List Value}{R:Value→LH→Seg→Prop}
  (U:As J f vs E [] R) (W:ops[i]? =some ⟨d,.call ⟨.value (.func f),args,ats⟩,ty,p,af,g⟩) (hw:AU L ops ⟨d,.call ⟨.value (.func f),args,ats⟩,ty,p,af,g⟩=some true) (Z:((b.kind != .early)&&Bb n d)=true) (hb:Cv P f=true)
  (aa:evs L args.toList=some vs) (K:Ax E H S) (ab:∀v E' seg',Le E E'→R v E' seg'→Ax E' H (S++ [seg'])→JL J Q b n (AE L d v) ds (.inRegion ops rest::k) cs (Am E' H (S++ [seg']))):
  JL J Q b n L ds (.inRegion ops (i::rest)::k) cs (Am E H S):=by
 have ae:Am E H S=Am E H (S++ [[]]):=by unfold Am;simp
 rw [ae];refine JS.KH S.length U W hw Z hb aa (by unfold Ax at K ⊢;rw [Er,List.append_nil];exact K) (by simp) fun v E' seg' hle ag O=>?_;have ah:(S++ [[]]).set S.length seg'=S++ [seg']:=FZ _ _ _ _;rw [ah] at O ⊢;exact ab v E' seg' hle ag O
theorem JS.split{todo:List Item}{S':List Seg}(K:S'.flatten=S.flatten)(O:Ax E H S)(h:Ax E H S'→JL J Q b n L ds todo cs (Am E H S')):JL J Q b n L ds todo cs (Am E H S):=by
 unfold Am Ax at*;rw [K] at h;exact h O
end
end Pal
namespace Pal
open Go Go.Conc
def Ld(P:Program)(t:TypeId)(a:Addr)(s:St)(v:Value):Prop:=lp P (loadVar t a) s (fun u s'=>u=v∧s'=s) (fun _ _=>False)
theorem Ld.many{P:Program}{t:TypeId}{a:Addr}{s:St}{vs:List Value}(ht:CM P t=some true)(K:Bj P t=some vs.length)(h:∀j v,vs[j]? =some v→s.cell? (a.add j)=some v):Ld P t a s (.agg vs.toArray):=Lw ht K h ⟨rfl,rfl⟩
def RV(P:Program)(L:Env)(s:St):List ResultVar→List Value→Prop
 | [],[]=>True
 | .tmp t::rs,v::vs=>look L t=some v∧RV P L s rs vs
 | .cell a t::rs,v::vs=>(∃ad,look L a=some (.pointer (some ad))∧Ld P t ad s v)∧RV P L s rs vs
 | _,_=>False
def IH:List Value→Value
 | [v]=>v
 | vs=> .tuple vs.toArray
theorem O6(vs:List Value):(if h:vs.toArray.size=1 then vs.toArray[0] else Value.tuple vs.toArray)=IH vs:=by
 match vs with
 | []=>rfl
 | [v]=>rfl
 | a::b::c=>simp [IH]
theorem Bv.list{P:Program}{f:FuncId}{fn:Func}{n:Nat}{L:Env}{s:St}{rs:List ResultVar}{vs:List Value}(Z:P.funcs[f]? =some fn)(aa:fn.results.toList=rs)(h:RV P L s rs vs):Bv P f L n s (IH vs):=by
 refine⟨fn,Z,fun T U=>?_⟩;unfold results;rw [Array.mapM_eq_mapM_toList,aa];have key:∀(rs:List ResultVar) (acc vs:List Value) {Q:List Value→St→Prop} {X:Halt→St→Prop},RV P L s rs vs→Q (acc.reverse++vs) s→lp P (List.mapM.loop (m:=Sem) (fun r=>match r with
   | .tmp t=>pure (T.getD t undef)
   | .cell a t=>do loadVar t (← asAddr (T.getD a undef))) rs acc) s Q X:=by
  intro rs
  induction rs with
  | nil=>
   intro acc vs Q X h k;cases vs with
   | nil=>simp only [List.append_nil] at k;exact k
   | cons v vs=>cases h
  | cons r rs W=>
   intro acc vs Q X h k;cases vs with
   | nil=>cases r <;> cases h
   | cons v vs=>
    cases r with
    | tmp t=>
     obtain⟨K,O⟩:=h;have:=U.at_ t v K;simp only [List.mapM.loop];rw [this];exact W (v::acc) vs O (by simpa using k)
    | cell a t=>
     obtain⟨⟨ad,K,ab⟩,O⟩:=h;have:=U.at_ a _ K;simp only [List.mapM.loop];rw [this];refine AD _ _ (Cl _ (show lp P (loadVar t ad) s _ _ from ab) ?_ (fun _ _ h=>h.elim));rintro u s' ⟨rfl,rfl⟩;exact W (u::acc) vs O (by simpa using k)
 refine AD _ _ ?_;refine AD (x:=List.mapM.loop (m:=Sem) _ rs []) (f:=fun r=>pure r.toArray) ?_;refine key rs [] vs h ?_;simp only [List.reverse_nil,List.nil_append,lp,pure];exact⟨O6 vs,trivial⟩
section
variable {P:Program}{J:Judge P}{Q:Goroutine→St→Prop}{g:Goroutine}{E H:LH}{S:List Seg}
theorem Gk{seg:Seg}(j:Nat)(Z:Ax E H S)(U:S[j]? =some seg)(h:Ax E H (S.set j [])→J.ok Q g (Am E H (S.set j []))):J.ok Q g (Am E H S):=by
 obtain⟨aa,K⟩:=Eu Z U;have ab:Nd E H ((S.set j []).flatten++ []):=by rw [List.append_nil];exact JL.FY.Nd.left K
 obtain⟨ai,ae⟩:=FB (seg':= []) U ab;refine J.ghost (s₀:=Am E H (S.set j [])) ⟨fun _ _ h=>h,fun x o ag=>?_,fun _ _ h=> .inl h,rfl⟩ (h ae);have W:AS (S.set j []).flatten H x=some o:=ag;show(Am E H S).H x=some o;rw [aa];show AS ((S.set j []).flatten++seg) H x=some o;rw [show AS ((S.set j []).flatten++seg) H=AS (seg++(S.set j []).flatten) H from Ho K List.perm_append_comm,Ds];by_cases hm:∃p∈seg,p.1=x
 ·exfalso;obtain⟨p,O,e⟩:=hm;have ah:=Nd.front (Nd.perm K List.perm_append_comm);have:=((Nd.iff.1 ah).2 p O).2;rw [e,W] at this;cases this
 ·rw [Hr fun p O e=>hm ⟨p,O,e⟩];exact W
end
section
variable {P:Program}{J:Judge P}{Q:Goroutine→St→Prop}{b:Frame}{n:Nat}{ds:List Deferred}{ops:Array Oper}{k:List Item}{cs:List Frame}{L:Env}{s:St}{E E' H:LH}{S:List Seg}
variable {d:Option Tmp}{x y:Operand}{t u ty e:TypeId}{p:String}{af:Array Edge}{g:Option (Nat×Bool)}{v:Value}{i:Nat}{rest:List Nat}{kd:IntKind}
theorem LW{ρ:Operand→Value}{len:Nat}{K:Array (Nat×Operand)}:execOp ρ ⟨d,.buildSlice t len K,ty,p,af,g⟩=(do pure (Next.value (← Instr.buildSlice t len (K.map fun(j,x)=>(j,ρ x))))):=by
 simp only [execOp]
theorem Pb(v:Array Value)(off:Nat)(c:Array Value):v.zipIdx.foldl (fun cs (x,j)=>cs.setIfInBounds (off+j) x) c=A0 c off v.toList:=by
 rw [← Array.foldl_toList,Array.toList_zipIdx];have key:∀(l:List Value) (st:Nat) (c:Array Value),List.foldl (fun cs (p:Value×Nat)=>cs.setIfInBounds (off+p.2) p.1) c (l.zipIdx st)=A0 c (off+st) l:=by
  intro l
  induction l with
  | nil=>intro st c;rfl
  | cons x l K=>intro st c;simp only [List.zipIdx_cons,List.foldl_cons,A0];rw [K];rfl
 exact key v.toList 0 c
def G9(place:Nat→Option (Nat×Nat))(cells:Array Value):List (Nat×Value)→Option (Array Value)
 | []=>some cells
 | (i,v)::rest=>match place i with
  | none=>none
  | some (off,size)=>if v.cells.size=size∧off+v.cells.size≤cells.size then G9 place (A0 cells off v.cells.toList) rest else none
theorem fill_eq{place:Nat→Option (Nat×Nat)}:∀{vs:List (Nat×Value)} {cells:Array Value},Instr.fill place cells vs=G9 place cells vs
 | [],_=>rfl
 | (i,v)::rest,cells=>by
  simp only [Instr.fill,G9]
  cases place i with
  | none=>rfl
  | some q=>
   obtain⟨off,size⟩:=q
   simp only
   by_cases h:v.cells.size=size∧off+v.cells.size≤cells.size
   ·rw [if_pos h,if_neg (by simp only [Bool.or_eq_true,decide_eq_true_eq,ne_eq];omega),fill_eq,Pb]
   ·rw [if_neg h,if_pos (by simp only [Bool.or_eq_true,decide_eq_true_eq,ne_eq];omega)]
theorem Mm{n:Nat}:∀(vs:List Value) (st:Nat) (cells:Array Value),(∀v∈vs,v.cells.size=n)→cells.size=(st+vs.length)*n→
  ∃O,G9 (fun i=>some (i*n,n)) cells ((vs.zipIdx st).map fun q=>(q.2,q.1))=some O∧O.toList=cells.toList.take (st*n)++(vs.map (·.cells.toList)).flatten
 | [],st,cells,_,hs=>⟨cells,rfl,by simp only [List.length_nil,Nat.add_zero] at hs;simp [← hs,List.take_of_length_le]⟩
 | v::vs,st,cells,U,hs=>by
  have K:=U v (by simp)
  have hle:st*n+n≤cells.size:=by
   rw [hs,List.length_cons];have:(st+1)*n≤(st+(vs.length+1))*n:=Nat.mul_le_mul_right _ (by omega);rw [Nat.succ_mul] at this;exact this
  obtain⟨W,Z,aa⟩:=Mm vs (st+1) (A0 cells (st*n) v.cells.toList) (fun u hu=>U u (List.mem_cons_of_mem _ hu)) (by rw [JM,hs,List.length_cons];congr 1;omega);refine⟨W,?_,?_⟩
  ·simp only [List.zipIdx_cons,List.map_cons,G9];rw [if_pos ⟨K,by omega⟩];exact Z
  ·rw [aa,Nat.succ_mul];have:=Lq cells (st*n) v.cells.toList (by simp [K];omega);rw [show v.cells.toList.length=n by simp [K]] at this;rw [this];simp
def F8{α:Type}(pp:Rp α)(E:LH):List α→List Value→Prop
 | [],[]=>True
 | x::xs,v::vs=>pp.r E v.cells.toList x∧F8 pp E xs vs
 | _,_=>False
theorem F8.at{E:LH}{α:Type}{pp:Rp α}:∀{xs:List α} {vs:List Value},F8 pp E xs vs→∀(i:Nat) x v,xs[i]? =some x→vs[i]? =some v→pp.r E v.cells.toList x
 | [],_,_,_,_,_,h,_=>by simp at h
 | _::_,[],h,_,_,_,_,_=>h.elim
 | x::xs,v::vs,h,0,y,u,K,hu=>by simp at K hu;subst K hu;exact h.1
 | x::xs,v::vs,h,i+1,y,u,K,hu=>F8.at h.2 i y u (by simpa using K) (by simpa using hu)
theorem Kg{E0:LH}{ρ:Operand→Value}{K:Next→St→Prop}(al:C4 L ρ){α:Type}{pp:Rp α}{len:Nat}{Z:Array (Nat×Operand)}(vs:List Value){z:Value}(xs:List α)
  (ht:P.underlying t=some (.slice e)) (am:Bj P e=some pp.n) (an:zeroOf P e=some z) (ao:decide (0<len*pp.n∧len*pp.n≤2 ^ 24)=true)
  (ap:Z.toList.mapM (fun q=>(ev L q.2).map fun v=>(q.1,v))=some ((vs.zipIdx 0).map fun q=>(q.2,q.1)))
  (U:vs.length=len) (W:xs.length=len) (aq:F8 pp E0 xs vs) (ar:Ax E H S)
  (h:∀r seg,OL e pp E0 (some ⟨r,0,none⟩) len seg xs→Ax E H (S++ [seg])→K (.value (.slice (some ⟨r,0,none⟩) xs.length len)) (Am E H (S++ [seg]))):
  lp P (execOp ρ ⟨d,.buildSlice t len Z,ty,p,af,g⟩) (Am E H S) K (fun _ _=>False):=by
 have ag:=aq.at;have au:(Z.map fun(j,x)=>(j,ρ x)).toList=(vs.zipIdx 0).map fun q=>(q.2,q.1):=by
  have key:∀(l:List (Nat×Operand)) (vs:List (Nat×Value)),l.mapM (fun q=>(ev L q.2).map fun v=>(q.1,v))=some vs→l.map (fun(j,x)=>(j,ρ x))=vs:=by
   intro l
   induction l with
   | nil=>intro vs h;simp at h;subst h;rfl
   | cons q l aa=>
    intro vs h;simp only [List.mapM_cons,bind] at h;cases ab:ev L q.2 with
    | none=>rw [ab] at h;simp at h
    | some w=>
     rw [ab] at h;simp only [Option.map_some,Option.bind_some] at h;obtain⟨av,aw,ah⟩:=bind_some h;simp at ah;subst ah;simp [aa av aw,al _ _ ab]
  rw [Array.toList_map];exact key _ _ ap
 have ai:∀v∈vs,v.cells.size=pp.n:=fun v O=>by
  obtain⟨i,hi⟩:=List.mem_iff_getElem?.1 O;have ay:i<xs.length:=by rw [W,← U];exact(List.getElem?_eq_some_iff.1 hi).1
  simpa using pp.len (ag i _ v (List.getElem?_eq_getElem ay) hi)
 rw [LW];refine AD _ _ ?_;unfold Instr.buildSlice;refine AD _ _ (Ck ht ?_);refine AD _ _ (Di am ?_);have aB:=of_decide_eq_true ao;rw [if_neg (by omega),if_neg (by omega)];refine AD (x:=zeroValue e) _ (D9 an ?_);rw [EV,au];obtain⟨cells,az,ae⟩:=Mm vs 0 ((Array.range (len*pp.n)).map (z.cells[· % z.cells.size]!)) ai (by simp [U]);simp only [fill_eq,az];simp only [Nat.zero_mul,List.take_zero,List.nil_append] at ae;refine AD _ _ (EX ar fun r aj=>?_);rw [(Db aj).1];have ak:cells.size=len*pp.n:=by
  have:cells.toList.length=len*pp.n:=by
   rw [ae];have:∀(vs:List Value),(∀v∈vs,v.cells.size=pp.n)→(vs.map (·.cells.toList)).flatten.length=vs.length*pp.n:=by
    intro vs
    induction vs with
    | nil=>intro _;simp
    | cons v vs aa=>intro h;rw [List.map_cons,List.flatten_cons,List.length_append,aa fun w hw=>h w (List.mem_cons_of_mem _ hw),List.length_cons,Nat.succ_mul,Nat.add_comm];simp [h v (by simp)]
   rw [this vs ai,U]
  simpa using this
 have:=h r [(r,.cells cells e (0,0))] ⟨vs.map (·.cells.toList),.inr ⟨r,cells,rfl,rfl,ak,by omega,by rw [← ae,List.take_of_length_le (by simp [ak,W])]⟩,by simp [U,W],fun i x ws aA hw=>by
  rw [List.getElem?_map] at hw
  cases O:vs[i]? with
  | none=>rw [O] at hw;cases hw
  | some v=>rw [O] at hw;cases hw;exact ag i x v aA O⟩ (Db aj).2
 rw [W] at this;exact this
theorem JS.lit{α:Type}{pp:Rp α}{len:Nat}{K:Array (Nat×Operand)}(vs:List Value){z:Value}(xs:List α)
  (O:ops[i]? =some ⟨d,.buildSlice t len K,ty,p,af,g⟩) (hw:AU L ops ⟨d,.buildSlice t len K,ty,p,af,g⟩=some true) (U:BR b n ⟨d,.buildSlice t len K,ty,p,af,g⟩=true)
  (ht:P.underlying t=some (.slice e)) (W:Bj P e=some pp.n) (Z:zeroOf P e=some z) (aa:decide (0<len*pp.n∧len*pp.n≤2 ^ 24)=true)
  (ab:K.toList.mapM (fun q=>(ev L q.2).map fun v=>(q.1,v))=some ((vs.zipIdx 0).map fun q=>(q.2,q.1)))
  (ae:vs.length=len) (ag:xs.length=len) (ah:F8 pp E xs vs) (ai:Ax E H S)
  (h:∀r seg,OL e pp E (some ⟨r,0,none⟩) len seg xs→Ax E H (S++ [seg])→JL J Q b n (AE L d (.slice (some ⟨r,0,none⟩) xs.length len)) ds (.inRegion ops rest::k) cs (Am E H (S++ [seg]))):
  JL J Q b n L ds (.inRegion ops (i::rest)::k) cs (Am E H S):=by
 exact JL.op O hw U fun ρ aj=>Kg aj vs xs ht W Z aa ab ae ag ah ai h
theorem OL.get{α:Type}{pp:Rp α}{a:Option Addr}{c:Nat}{seg:Seg}{xs:List α}{m:Nat}{x:α}(aa:OL e pp E a c seg xs)(hm:xs[m]? =some x):
  ∃O f ws,a=some ⟨O,0,none⟩∧seg= [(O,.cells f e (0,0))]∧pp.r E ws x∧(∀j w,ws[j]? =some w→f[m*pp.n+j]? =some w)∧(m+1)*pp.n≤f.size∧
   ∀(x':α) (ws':List Value),pp.r E ws' x'→OL e pp E a c [(O,.cells (A0 f (m*pp.n) ws') e (0,0))] (xs.set m x'):=by
 obtain⟨wss,aa,ai,ab⟩:=aa;have aj:m<xs.length:=(List.getElem?_eq_some_iff.1 hm).1;rcases aa with⟨ae,ak,_⟩ | ⟨O,f,ae,ak,ar,al,am⟩
 ·omega
 have hw:wss[m]? =some wss[m]:=List.getElem?_eq_getElem (by omega);have an:=FW ai ab;have hle:(m+1)*pp.n≤xs.length*pp.n:=Nat.mul_le_mul_right _ aj;have aw:xs.length*pp.n≤c*pp.n:=Nat.mul_le_mul_right _ al;refine⟨O,f,wss[m],ae,ak,ab m x _ hm hw,fun j w K=>?_,by omega,fun x' ws' ao=>?_⟩
 ·have:=GJ an hw j w K;rw [am,List.getElem?_take] at this;split at this
  ·simpa using this
  ·cases this
 ·have ap:ws'.length=pp.n:=pp.len ao;refine⟨wss.set m ws',.inr ⟨O,_,ae,rfl,by rw [JM];exact ar,by simpa using al,?_⟩,by simpa using ai,fun i y us Z hu=>?_⟩
  ·simp only [List.length_set];have key:∀(wss:List (List Value)) (m:Nat) (hm:m<wss.length),(∀ws∈wss,ws.length=pp.n)→∀j,(wss.set m ws').flatten[j]? =if m*pp.n≤j∧j<(m+1)*pp.n then ws'[j - m*pp.n]? else wss.flatten[j]? :=by
    intro wss
    induction wss with
    | nil=>intro m hm;simp at hm
    | cons us wss ag=>
     intro m hm aq j;have hu:us.length=pp.n:=aq us (by simp);cases m with
     | zero=>
      simp only [List.set_cons_zero,List.flatten_cons,Nat.zero_mul,Nat.zero_le,true_and,Nat.zero_add,Nat.one_mul,Nat.sub_zero];split
      ·rename_i K;rw [List.getElem?_append_left (by omega)]
      ·rename_i K;rw [List.getElem?_append_right (by omega),List.getElem?_append_right (by omega),ap,hu]
     | succ m=>
      simp only [List.set_cons_succ,List.flatten_cons];have U:(m+1)*pp.n=m*pp.n+pp.n:=Nat.succ_mul _ _;have ah:(m+1+1)*pp.n=(m+1)*pp.n+pp.n:=Nat.succ_mul _ _;rcases Nat.lt_or_ge j us.length with K | K
      ·rw [List.getElem?_append_left K,List.getElem?_append_left K,if_neg (by omega)]
      ·rw [List.getElem?_append_right K,List.getElem?_append_right K,ag m (by simpa using hm) (fun ws au=>aq ws (List.mem_cons_of_mem _ au))];by_cases W:m*pp.n≤j - us.length∧j - us.length<(m+1)*pp.n
       ·rw [if_pos W,if_pos (by omega)];congr 1;omega
       ·rw [if_neg W,if_neg (by omega)]
   have av:∀(vs:List Value) (c:Array Value) (off:Nat),off+vs.length≤c.size→∀j,(A0 c off vs)[j]? =if off≤j∧j<off+vs.length then vs[j - off]? else c[j]? :=by
    intro vs
    induction vs with
    | nil=>intro c off _ j;simp [A0];omega
    | cons w vs ag=>
     intro c off W j;simp only [A0,List.length_cons] at*;rw [ag _ _ (by simp;omega)];by_cases U:j=off
     ·subst U;rw [if_neg (by omega),if_pos (by omega),Nat.sub_self,List.getElem?_cons_zero,Array.getElem?_setIfInBounds_self_of_lt (by omega)]
     ·by_cases ah:off+1≤j∧j<off+1+vs.length
      ·rw [if_pos ah,if_pos (by omega)];have:j - off=(j - (off+1))+1:=by omega
       rw [this];simp
      ·rw [if_neg ah,if_neg (by omega),Array.getElem?_setIfInBounds_ne (by omega)]
   apply List.ext_getElem?;intro j;have U:(m+1)*pp.n=m*pp.n+pp.n:=Nat.succ_mul _ _;have t1:(A0 f (m*pp.n) ws').toList[j]? =(A0 f (m*pp.n) ws')[j]? :=Array.getElem?_toList;have t2:f.toList[j]? =f[j]? :=Array.getElem?_toList;rw [key wss m (by omega) an,List.getElem?_take,t1,av ws' f (m*pp.n) (by omega),am,List.getElem?_take,t2,ap];by_cases W:m*pp.n≤j∧j<(m+1)*pp.n
   ·rw [if_pos W,if_pos (by omega),if_pos (by omega)]
   ·rw [if_neg W,if_neg (show ¬(m*pp.n≤j∧j<m*pp.n+pp.n) by omega)]
  ·rw [List.getElem?_set] at Z hu;by_cases U:m=i
   ·subst U;rw [if_pos rfl,if_pos aj] at Z;rw [if_pos rfl,if_pos (by omega)] at hu;cases Z;cases hu;exact ao
   ·rw [if_neg U] at hu Z;exact ab i y us Z hu
theorem JS.Td{α:Type}{pp:Rp α}{a:Option Addr}{c:Nat}{seg:Seg}{xs:List α}{xv:α}{m:Int}(j:Nat)(U:OL e pp E a c seg xs)(hm:ix xs m=some xv)(W:S[j]? =some seg)
  (Z:ops[i]? =some ⟨d,.indexAddr t x y,ty,p,af,g⟩) (hw:AU L ops ⟨d,.indexAddr t x y,ty,p,af,g⟩=some true) (aa:BR b n ⟨d,.indexAddr t x y,ty,p,af,g⟩=true)
  (ab:ev L x=some (.slice a xs.length c)) (ae:ev L y=some (.int kd m)) (ht:P.underlying t=some (.slice e)) (ag:Bj P e=some pp.n)
  (h:∀K o f ws,S[j]? =some [(K,.cells f e (0,0))]→pp.r E ws xv→(∀j w,ws[j]? =some w→f[o+j]? =some w)→o+pp.n≤f.size→(∀(x':α) (ws':List Value),pp.r E ws' x'→OL e pp E a c [(K,.cells (A0 f o ws') e (0,0))] (xs.set m.toNat x'))→o=m.toNat*pp.n→a=some ⟨K,0,none⟩→
   JL J Q b n (AE L d (.pointer (some ⟨K,o,none⟩))) ds (.inRegion ops rest::k) cs (Am E H S)):
  JL J Q b n L ds (.inRegion ops (i::rest)::k) cs (Am E H S):=by
 obtain⟨m,rfl,hm⟩:=Fc hm;have an:m<xs.length:=(List.getElem?_eq_some_iff.1 hm).1;obtain⟨K,f,ws,rfl,rfl,ah,ai,aj,ak⟩:=OL.get U hm;have al:(m+1)*pp.n=m*pp.n+pp.n:=Nat.succ_mul _ _;have am:m*pp.n+pp.n≤f.size:=by rw [← al];exact aj
 refine JL.y (v:= .pointer (some ⟨K,m*pp.n,none⟩)) Z hw aa (fun ρ O=>?_) (h K (m*pp.n) f ws W ah ai am (by simpa using ak) (by simp) rfl);have:=Yl.HB (P:=P) (s:=Am E H S) (d:=d) (ty:=ty) (p:=p) (af:=af) (g:=g) ht ag (O x _ ab) (O y _ ae) ⟨by omega,by omega⟩;rw [Bd rfl] at this;simpa using this
end
end Pal
namespace Pal
open Go Go.Conc
section
variable {P:Program}{J:Judge P}{Q:Goroutine→St→Prop}{b:Frame}{n:Nat}{ds:List Deferred}{ops:Array Oper}{k:List Item}{cs:List Frame}{L:Env}{s:St}{E E' H:LH}{S:List Seg}
variable {d:Option Tmp}{x y:Operand}{t u ty e:TypeId}{p:String}{af:Array Edge}{g:Option (Nat×Bool)}{v:Value}{i:Nat}{rest:List Nat}{kd:IntKind}
theorem JS.perm{todo:List Item}{S':List Seg}(K:S.flatten.Perm S'.flatten)(O:Ax E H S)(h:Ax E H S'→JL J Q b n L ds todo cs (Am E H S')):JL J Q b n L ds todo cs (Am E H S):=by
 have U:Ax E H S':=Nd.perm O K;rw [show Am E H S=Am E H S' from C3 O K];exact h U
theorem JS.part{todo:List Item}{A B:Seg}(j:Nat)(K:S[j]? =some (A++B))(O:Ax E H S)(h:Ax E H (S.set j A++ [B])→JL J Q b n L ds todo cs (Am E H (S.set j A++ [B]))):JL J Q b n L ds todo cs (Am E H S):=by
 refine JS.perm ?_ O h;have U:=(CB (seg':=A) K).1;have W:=(CB (seg':=A) K).2;rw [Er];refine U.trans ?_;have Z:=W.symm.append_right B
 rwa [List.append_assoc] at Z
theorem JS.swap{todo:List Item}{A B:Seg}(j l:Nat)(O:S[j]? =some A)(U:S[l]? =some B)(Z:(j==l)=false)(aa:Ax E H S)(h:Ax E H ((S.set j B).set l A)→JL J Q b n L ds todo cs (Am E H ((S.set j B).set l A))):JL J Q b n L ds todo cs (Am E H S):=by
 have K:j≠l:=by simpa using Z
 refine JS.perm ?_ aa h;have ab:=(CB (seg':=B) O).1;have ae:(S.set j [])[l]? =some B:=by rw [List.getElem?_set_ne K];exact U
 have ag:=(CB (seg':=A) ae).1;have ah:((S.set j B).set l A)[l]? =some A:=by
  have:l<(S.set j B).length:=by rw [List.length_set];exact(List.getElem?_eq_some_iff.1 U).1
  rw [List.getElem?_set,if_pos rfl,if_pos this]
 have W:=(CB (seg':=A) ah).1;rw [List.set_set] at W;have ai:((S.set j B).set l [])[j]? =some B:=by
  have:j<S.length:=(List.getElem?_eq_some_iff.1 O).1;rw [List.getElem?_set_ne (Ne.symm K)];simp [this]
 have c2:=(CB (seg':=B) ai).1;have aj:(((S.set j B).set l []).set j [])=((S.set j []).set l []):=by
  rw [List.set_comm _ _ K,List.set_set,List.set_comm _ _ K.symm]
 rw [aj] at c2;exact ab.trans ((ag.append_right A).trans ((c2.symm.append_right A).trans W.symm))
theorem Ec{K off:Nat}{c:Array Value}{f:Nat×Nat}{vs:List Value}{seg:Seg}(j:Nat)(O:Ax E H S)(U:S[j]? =some ((K,.cells c e f)::seg))(W:(c.toList.drop off).take vs.length=vs):∀i v,vs[i]? =some v→(Am E H S).cell? (Addr.add ⟨K,off,none⟩ i)=some v:=
 O7 O U fun i v hi=>by
  have Z:i<vs.length:=(List.getElem?_eq_some_iff.1 hi).1
  rw [← W,List.getElem?_take_of_lt Z,List.getElem?_drop,Array.getElem?_toList] at hi
  exact hi
theorem Ir(vs:List Value):∀(c:Array Value) (off:Nat),off+vs.length≤c.size→∀j,(A0 c off vs)[j]? =if off≤j∧j<off+vs.length then vs[j - off]? else c[j]? :=by
 induction vs with
 | nil=>intro c off _ j;simp [A0];omega
 | cons w vs O=>
  intro c off W j;simp only [A0,List.length_cons] at*;rw [O _ _ (by simp;omega)];by_cases U:j=off
  ·subst U;rw [if_neg (by omega),if_pos (by omega),Nat.sub_self,List.getElem?_cons_zero,Array.getElem?_setIfInBounds_self_of_lt (by omega)]
  ·by_cases K:off+1≤j∧j<off+1+vs.length
   ·rw [if_pos K,if_pos (by omega)];have:j - off=(j - (off+1))+1:=by omega
    rw [this];simp
   ·rw [if_neg K,if_neg (by omega),Array.getElem?_setIfInBounds_ne (by omega)]
theorem Pf{f:Array Value}{o m:Nat}{ws us vs:List Value}(hle:o+ws.length≤f.size)(Z:∀j w,ws[j]? =some w→f[o+j]? =some w)(K:vs=ws.take m++us++ws.drop (m+us.length))(hm:m+us.length≤ws.length):A0 f (o+m) us=A0 f o vs:=by
 have aa:vs.length=ws.length:=by subst K;simp;omega
 apply Array.ext_getElem?;intro j;rw [Ir us f (o+m) (by omega),Ir vs f o (by omega),aa];by_cases O:o+m≤j∧j<o+m+us.length
 ·rw [if_pos O,if_pos (by omega)];subst K;rw [List.getElem?_append_left (by simp;omega),List.getElem?_append_right (by simp;omega)];congr 1;simp;omega
 ·rw [if_neg O];by_cases U:o≤j∧j<o+ws.length
  ·rw [if_pos U];have hw:ws[j - o]? =some ws[j - o]:=List.getElem?_eq_getElem (by omega);have:=Z _ _ hw;rw [show o+(j - o)=j by omega] at this;rw [this,← hw];subst K;rcases Nat.lt_or_ge (j - o) m with W | W
   ·rw [List.getElem?_append_left (by simp;omega),List.getElem?_append_left (by simp;omega),List.getElem?_take_of_lt W]
   ·rw [List.getElem?_append_right (by simp;omega),List.getElem?_drop];congr 1;simp;omega
  ·rw [if_neg U]
end
end Pal
namespace Pal
open Go Go.Conc
theorem elim_inl{α β K:Type}{f:α→Option K}{g:β→Option K}{x:α}{r:K}(h:Sum.elim f g (.inl x)=some r):f x=some r:=h
theorem elim_inr{α β K:Type}{f:α→Option K}{g:β→Option K}{x:β}{r:K}(h:Sum.elim f g (.inr x)=some r):g x=some r:=h
def room{α:Type}(xs:List α)(x:α):Option (List α):=if xs.length+1≤2 ^ 40 then some (xs++ [x]) else none
theorem PK{α:Type}{xs ys:List α}{x:α}(h:room xs x=some ys):xs.length+1≤2 ^ 40∧ys=xs++ [x]:=by
 unfold room at h;split at h
 ·rename_i hb;exact⟨hb,(Option.some.inj h).symm⟩
 ·cases h
def Je(a b:Nat):Option Nat:=if b=0 then none else some (a % b)
def GC(a b:Nat):Option Nat:=if a<65536∧b<65536 then some (a ||| b) else none
def Hh(a b:Nat):Option Nat:=if a<65536∧b<65536 then some (a&&& b) else none
section
variable {P:Program}{s:St}{ρ:Operand→Value}{x y z:Operand}{d:Option Tmp}{t u ty e:TypeId}{p:String}{af:Array Edge}{g:Option (Nat×Bool)}{v:Value}{kd kd':IntKind}{m m':Int}{a b:Nat}
theorem Yl.SP{r:Nat}(K:ρ x= .int .u64 (a:Int))(O:ρ y= .int .u64 (b:Int))(h:Je a b=some r):Yl P ⟨d,.binOp .rem t x y u,ty,p,af,g⟩ ρ s (.int .u64 (r:Int)):=by
 unfold Je at h;split at h
 ·cases h
 ·rename_i U;cases h;exact Yl.Tk K O U
theorem Yl.HI{r:Nat}(O:ρ x=CY a)(U:ρ y=CY b)(h:GC a b=some r):Yl P ⟨d,.binOp .or t x y u,ty,p,af,g⟩ ρ s (CY r):=by
 unfold GC at h;split at h
 ·rename_i K;cases h;exact Yl.Tt O U K.1 K.2
 ·cases h
theorem Yl.Ki{r:Nat}(O:ρ x=CY a)(U:ρ y=CY b)(h:Hh a b=some r):Yl P ⟨d,.binOp .and t x y u,ty,p,af,g⟩ ρ s (CY r):=by
 unfold Hh at h;split at h
 ·rename_i K;cases h;exact Yl.Ta O U K.1 K.2
 ·cases h
theorem Yl.min2{ats:Array TypeId}(K:ρ x=iV m)(O:ρ y=iV m'):Yl P ⟨d,.call ⟨.builtin .min,#[x,y],ats⟩,ty,p,af,g⟩ ρ s (iV (min m m')):=by
 have e:(if m'<m then m' else m)=min m m':=by split <;> omega
 simp [Yl,execOp,lp,pure,bind,Sem.bind,K,O,resolve,invoke,builtin,Builtin.min_,Builtin.min2,e]
theorem Yl.max2{ats:Array TypeId}(K:ρ x=iV m)(O:ρ y=iV m'):Yl P ⟨d,.call ⟨.builtin .max,#[x,y],ats⟩,ty,p,af,g⟩ ρ s (iV (max m m')):=by
 have e:(if m<m' then m' else m)=max m m':=by split <;> omega
 simp [Yl,execOp,lp,pure,bind,Sem.bind,K,O,resolve,invoke,builtin,Builtin.max_,Builtin.max2,e]
end
def H5(P:Program):List Field→List (Nat×Nat)→Prop
 | f::K,(o,n)::O=>f.offset=o∧Bj P f.type=some n∧H5 P K O
 | [],[]=>True
 | _,_=>False
theorem H5.mapM{P:Program}:∀{K:List Field} {O:List (Nat×Nat)},H5 P K O→K.mapM (fun f=>(Bj P f.type).map fun n=>(f.offset,n))=some O
 | [],[],_=>rfl
 | [],_::_,h=>h.elim
 | _::_,[],h=>h.elim
 | f::K,(o,n)::O,h=>by
  obtain⟨U,W,Z⟩:=h
  simp only [List.mapM_cons,bind,W,Option.map_some,Option.bind_some,H5.mapM Z,U];rfl
theorem L3{L:Env}{ρ:Operand→Value}(h:C4 L ρ):∀{l:List (Nat×Operand)} {vs:List (Nat×Value)},l.mapM (fun q=>(ev L q.2).map fun v=>(q.1,v))=some vs→l.map (fun(j,x)=>(j,ρ x))=vs
 | [],vs,e=>by simp at e;subst e;rfl
 | q::l,vs,e=>by
  simp only [List.mapM_cons,bind] at e
  cases K:ev L q.2 with
  | none=>rw [K] at e;simp at e
  | some w=>
   rw [K] at e
   simp only [Option.map_some,Option.bind_some] at e
   obtain⟨W,U,O⟩:=bind_some e
   simp at O;subst O
   simp [L3 h U,h _ _ K]
theorem Yl.Ci{P:Program}{s:St}{ρ:Operand→Value}{L:Env}{d:Option Tmp}{t ty:TypeId}{p:String}{af:Array Edge}{g:Option (Nat×Bool)}{z:Value}{K:Array Field}{O:Array (Nat×Operand)}{vs:List (Nat×Value)}{cells:Array Value}(places:List (Nat×Nat))(h:C4 L ρ)(U:zeroOf P t=some z)(ht:P.underlying t=some (.struct K))(W:H5 P K.toList places)
  (Z:O.toList.mapM (fun q=>(ev L q.2).map fun v=>(q.1,v))=some vs) (aa:G9 (places.toArray[·]?) z.cells vs=some cells):Yl P ⟨d,.build t O,ty,p,af,g⟩ ρ s (.agg cells):=
 Yl.build (places:=places.toArray) U ht (by simpa using W.mapM) (L3 h Z) (by rw [fill_eq];exact aa)
theorem OL.again{α:Type}{e:TypeId}{pp:Rp α}{E:LH}{a:Option Addr}{K c o:Nat}{f:Array Value}{xs:List α}{m:Int}{x:α}(U:OL e pp E a c [(K,.cells f e (0,0))] xs)(hm:ix xs m=some x)(W:o=m.toNat*pp.n):
  ∃ws,pp.r E ws x∧(∀j w,ws[j]? =some w→f[o+j]? =some w)∧o+pp.n≤f.size∧∀(x':α) (ws':List Value),pp.r E ws' x'→OL e pp E a c [(K,.cells (A0 f o ws') e (0,0))] (xs.set m.toNat x'):=by
 obtain⟨m,rfl,hm⟩:=Fc hm;obtain⟨ai,aj,ws,ak,O,Z,aa,ab,ae⟩:=OL.get U hm;simp only [List.cons.injEq,Prod.mk.injEq,Obj.cells.injEq,and_true] at O;obtain⟨rfl,rfl⟩:=O;have ag:(m+1)*pp.n=m*pp.n+pp.n:=Nat.succ_mul _ _;have ah:o=m*pp.n:=by simpa using W
 subst ah;exact⟨ws,Z,aa,by rw [← ag];exact ab,by simpa using ae⟩
section
variable {P:Program}{J:Judge P}{Q:Goroutine→St→Prop}{b:Frame}{n:Nat}{ds:List Deferred}{ops:Array Oper}{k:List Item}{cs:List Frame}{L:Env}{s:St}{E E' H:LH}{S:List Seg}
variable {d:Option Tmp}{x y:Operand}{t u ty e:TypeId}{p:String}{af:Array Edge}{g:Option (Nat×Bool)}{v:Value}{i:Nat}{rest:List Nat}{kd:IntKind}
theorem JS.app{α:Type}{pp:Rp α}{t1 t2:TypeId}{K c:Nat}{a:Option Addr}{seg:Seg}{xs ys:List α}{xv:α}{Z:Nat}{d1:Tmp}{ats:Array TypeId}{O:TypeId}{U:String}{W:Array Edge}{g':Option (Nat×Bool)}{z:Value}(j:Nat)(ae:room xs xv=some ys)
  (ag:ops[i]? =some ⟨some d1,.buildSlice t2 1 #[(0,y)],O,U,W,g'⟩) (hw:AU L ops ⟨some d1,.buildSlice t2 1 #[(0,y)],O,U,W,g'⟩=some true) (ah:BR b n ⟨some d1,.buildSlice t2 1 #[(0,y)],O,U,W,g'⟩=true)
  (ai:ops[Z]? =some ⟨d,.call ⟨.builtin .append,#[x,.tmp d1],ats⟩,ty,p,af,g⟩) (aj:∀w,AU (AE L (some d1) w) ops ⟨d,.call ⟨.builtin .append,#[x,.tmp d1],ats⟩,ty,p,af,g⟩=some true) (ak:BR b n ⟨d,.call ⟨.builtin .append,#[x,.tmp d1],ats⟩,ty,p,af,g⟩=true)
  (al:∀w,ev (AE L (some d1) w) x=some (.slice a xs.length c)) (am:ev L y=some v) (an:ats[0]? =some t) (ao:ats[1]? =some t1) (ht:P.underlying t=some (.slice e)) (ap:P.underlying t1=some (.slice e)) (aq:P.underlying t2=some (.slice e)) (ar:Bj P e=some pp.n) (hb:Dc P e=some K) (au:zeroOf P e=some z) (av:z.cells.size=pp.n)
  (aw:0<K) (ay:K≤64) (az:0<pp.n) (aA:pp.n≤64) (aB:OL e pp E a c seg xs) (aC:pp.r E v.cells.toList xv) (aD:Ax E H S) (aE:S[j]? =some seg)
  (h:∀w aa ab seg',OL e pp E aa ab seg' ys→Ax E H (S.set j seg')→JL J Q b n (AE (AE L (some d1) w) d (.slice aa ys.length ab)) ds (.inRegion ops rest::k) cs (Am E H (S.set j seg'))):
  JL J Q b n L ds (.inRegion ops (i::Z::rest)::k) cs (Am E H S):=by
 obtain⟨aF,rfl⟩:=PK ae;exact JS.IT j ag hw ah ai aj ak al am an ao ht ap aq ar hb au av aw ay az aA aF aB aC aD aE h
theorem JS.norm{todo:List Item}{S':List Seg}(K:S=S')(O:Ax E H S)(h:Ax E H S'→JL J Q b n L ds todo cs (Am E H S')):JL J Q b n L ds todo cs (Am E H S):=by
 subst K;exact h O
end
end Pal
namespace Pal
open Go Go.Conc
theorem Cz.Fp{P:Program}{J:Judge P}{f:FuncId}{args:Array Value}{s:St}{R:Value→St→Prop}(h:Cz J f args s R)(U:∀v s',R v s'→s'.q=false):Cz J f args s (fun v s'=>R v s'∧∃w,Fits s' w):=fun Q c cs W=>
 h Q c cs fun v s' K=>by
  by_cases O:∃w,Fits s' w
  ·exact W v s' ⟨K,O⟩
  ·exact J.step ⟨rfl,fun w f=>absurd ⟨w,f⟩ O,fun e=>by have:=U v s' K;subst e;cases this⟩
def AA(l:List Nat):Nat→Bool:=fun x=>l.contains x
section
variable {P:Program}{J:Judge P}{Q:Goroutine→St→Prop}{b:Frame}{n:Nat}{ds:List Deferred}{ops:Array Oper}{k:List Item}{cs:List Frame}{m fuel:Nat}{D:Nat→Bool}{listed:Array Bool}{L:Env}{s:St}{E E' H:LH}{S:List Seg}
variable {d:Option Tmp}{x y:Operand}{t u ty e:TypeId}{p:String}{af:Array Edge}{g:Option (Nat×Bool)}{v:Value}{i:Nat}{kd:IntKind}
def EK(ops:Array Oper)(listed:Array Bool)(m i:Nat):Bool:=match ops[i]? with
 | some oi=>decide (i<m)&&Region.noSelect ops&& !Cs oi.op&&FF ops listed i oi&&EI ops listed&&listed.size==ops.size&&(Region.ready .any ops listed).contains i
 | none=>false
theorem JG.Dm(m:Nat){id:Nat}(hm:P.follows .mixedOrders=true)(K:(b.kind != .early)=true)
  (ht:Du ops m=true) (h:Du ops m=true→Au J Q b n ds ops k cs m Dd ops.size (Array.replicate ops.size false) L (Am E H S)):JL J Q b n L ds (.code (.region id ops true)::k) cs (Am E H S):=
 JL.NV m Dd rfl hm K (h ht)
theorem L2{oi:Oper}{i:Nat}(hi:ops[i]? =some oi)(K:EK ops listed m i=true):decide (i<m)=true∧Region.noSelect ops=true∧(!Cs oi.op)=true∧FF ops listed i oi=true∧EI ops listed=true∧(listed.size==ops.size)=true∧(Region.ready .any ops listed).contains i=true:=by
 simp only [EK,hi,Bool.and_eq_true] at K;obtain⟨⟨⟨⟨⟨⟨O,U⟩,W⟩,Z⟩,aa⟩,ab⟩,ae⟩:=K;exact⟨O,U,W,Z,aa,ab,ae⟩
theorem JG.val{oi:Oper}(i:Nat)(hi:ops[i]? =some oi)(K:Du ops m=true)(O:EK ops listed m i=true)(U:s.q=false)
  (hw:AU L ops oi=some true) (W:Bb n oi.dst=true) (Z:∀ρ,C4 L ρ→∀s':St,(∀x o,(Bg D s).E x=some o→s'.E x=some o)→Yl P oi ρ s' v)
  (h:Au J Q b n ds ops k cs m D fuel (AX listed i) (AE L oi.dst v) s):Au J Q b n ds ops k cs m D (fuel+1) listed L s:=
 let ⟨aa,ab,ae,ag,ah,ai,aj⟩:=L2 hi O
 Au.S1 hi aa K ab ae ag ah ai aj U hw W (fun ρ ak s' _ hs=>Z ρ ak s' hs) h
theorem JG.no{oi:Oper}(i:Nat)(hi:ops[i]? =some oi)(K:Du ops m=true)(O:EK ops listed m i=true)(U:s.q=false)
  (hw:AU L ops oi=some false) (W:Bb n oi.dst=true)
  (h:Au J Q b n ds ops k cs m D fuel (AX listed i) (AE L oi.dst undef) s):Au J Q b n ds ops k cs m D (fuel+1) listed L s:=
 let ⟨Z,aa,ab,ae,ag,ah,ai⟩:=L2 hi O
 Au.SE hi Z K aa ab ae ag ah ai U hw W h
theorem JG.idx{α:Type}{pp:Rp α}{a:Option Addr}{c:Nat}{xs:List α}{xv:α}{K:Int}(i:Nat)(Z:Ao pp E a c xs)(U:ix xs K=some xv)
  (aa:ops[i]? =some ⟨d,.indexAddr t x y,ty,p,af,g⟩) (ab:Du ops m=true) (ae:EK ops listed m i=true) (ag:s.q=false)
  (hw:AU L ops ⟨d,.indexAddr t x y,ty,p,af,g⟩=some true) (ah:Bb n d=true)
  (ai:ev L x=some (.slice a xs.length c)) (aj:ev L y=some (.int kd K)) (ht:P.underlying t=some (.slice e)) (ak:Bj P e=some pp.n)
  (h:∀O o ws,pp.r E ws xv→At E O o ws→Au J Q b n ds ops k cs m D fuel (AX listed i) (AE L d (.pointer (some ⟨O,o,none⟩))) s):
  Au J Q b n ds ops k cs m D (fuel+1) listed L s:=by
 obtain⟨K,rfl,U⟩:=Fc U;have al:K<xs.length:=(List.getElem?_eq_some_iff.1 U).1;obtain⟨ap,⟨rfl,_⟩ | ⟨O,off,rfl,am⟩⟩:=Z
 ·simp at al
 obtain⟨ws,an,ao⟩:=am K xv U;refine JG.val (v:= .pointer (some ⟨O,off+K*pp.n,none⟩)) i aa ab ae ag hw ah (fun ρ W s' _=>?_) (h O _ ws an ao);have:=Yl.HB (P:=P) (s:=s') (d:=d) (ty:=ty) (p:=p) (af:=af) (g:=g) ht ak (W x _ ai) (W y _ aj) ⟨by omega,by omega⟩;rw [Bd rfl] at this;simpa using this
theorem JG.call{f:FuncId}{args:Array Operand}{ats:Array TypeId}{vs:List Value}{R:Value→LH→Seg→Prop}(W:As J f vs E [] R)(Z:Region.ready .any ops listed= [i])
  (aa:ops[i]? =some ⟨d,.call ⟨.value (.func f),args,ats⟩,ty,p,af,g⟩) (ab:Bb n d=true) (hw:AU L ops ⟨d,.call ⟨.value (.func f),args,ats⟩,ty,p,af,g⟩=some true) (hb:Cv P f=true) (ae:evs L args.toList=some vs) (ag:Ax E H S)
  (ah:∀v E' seg',Le E E'→R v E' seg'→Ax E' H (S++ [seg'])→Au J Q b n ds ops k cs m Dd fuel (AX listed i) (AE L d v) (Am E' H (S++ [seg']))):
  Au J Q b n ds ops k cs m Dd (fuel+1) listed L (Am E H S):=by
 have ai:=Cz.Fp (W (AS S.flatten H) trivial) (by rintro v s' ⟨E',B',_,_,_,rfl⟩;rfl);refine Au.call rfl Z aa ab hw hb ae ai ?_;rintro v aq ⟨⟨E',B',hle,aj,ak,rfl⟩,w,al⟩;have am:mk E' (AS S.flatten H) B'=mk E' H (B'++S.flatten):=by unfold mk;rw [Ds]
 have an:Nd E' H S.flatten:=Nd.grow ag fun x K=>by
  have ao:=al.d x K;have ap:AS B' (AS S.flatten H) x=none:=ao;exact(Ep ap).1
 have O:Nd E' H (B'++S.flatten):=Nd.glue ak an;have U:(B'++S.flatten).Perm (S++ [B']).flatten:=by rw [Er];exact List.perm_append_comm
 rw [am,C3 O U];exact⟨rfl,fun x o K=>hle x o K,ah v E' B' hle aj (Nd.perm O U)⟩
end
end Pal
namespace Pal
open Go Go.Conc
theorem Hz{E H:LH}{S:List Seg}{j K:Nat}{o:Obj}{seg:Seg}(O:Ax E H S)(U:S[j]? =some ((K,o)::seg)):E K=none:=by
 have hm:(K,o)∈S.flatten:=List.mem_flatten.2 ⟨_,List.mem_of_getElem? U,by simp⟩;exact((Nd.iff.1 O).2 _ hm).1
end Pal
namespace Pal
open Go Go.Conc
def HW(a:Nat)(n:Int):Option Nat:=if 0≤n∧n≤16 then some (a>>>n.toNat) else none
def HP(n:Int):Option Nat:=if 0≤n∧n<16 then some (1<<<n.toNat) else none
def N3{α:Type}(n:Int)(z:α):Option (List α):=if 0≤n∧n≤2 ^ 20 then some (List.replicate n.toNat z) else none
def CF{α:Type}(xs ys:List α):Option (List α):=if xs.length+ys.length≤2 ^ 40 then some (xs++ys) else none
section
variable {P:Program}{s:St}{ρ:Operand→Value}{x y z:Operand}{d:Option Tmp}{t u ty e:TypeId}{p:String}{af:Array Edge}{g:Option (Nat×Bool)}{v:Value}{kd kd':IntKind}{m m':Int}{a b:Nat}
theorem Yl.Th{r:Nat}(K:ρ x=CY a)(O:ρ y=iV m)(h:HW a m=some r):Yl P ⟨d,.binOp .shr t x y u,ty,p,af,g⟩ ρ s (CY r):=by
 unfold HW at h;split at h
 ·rename_i U;cases h;refine Yl.Tc K (c:=m.toNat) ?_ (by omega);rw [O];congr 1;omega
 ·cases h
theorem Yl.Ti{r:Nat}(K:ρ x=CY 1)(O:ρ y=iV m)(h:HP m=some r):Yl P ⟨d,.binOp .shl t x y u,ty,p,af,g⟩ ρ s (CY r):=by
 unfold HP at h;split at h
 ·rename_i U;cases h;refine Yl.Tb K (c:=m.toNat) ?_ (by omega);rw [O];congr 1;omega
 ·cases h
end
section
variable {P:Program}{J:Judge P}{Q:Goroutine→St→Prop}{b:Frame}{n:Nat}{ds:List Deferred}{ops:Array Oper}{k:List Item}{cs:List Frame}{L L':Env}{s:St}{E E' H:LH}{S:List Seg}
variable {d:Option Tmp}{x y:Operand}{t u ty e:TypeId}{p:String}{af:Array Edge}{g:Option (Nat×Bool)}{v:Value}{i:Nat}{rest:List Nat}{kd:IntKind}
theorem Pl{ρ:Operand→Value}:execOp ρ ⟨d,.makeSlice t x y,ty,p,af,g⟩=(do pure (Next.value (← Instr.makeSlice t (ρ x) (ρ y)))):=by
 simp only [execOp]
theorem JJ{α:Type}(w:List α):∀m:Nat,((List.replicate m w).flatten).length=m*w.length
 | 0=>by simp
 | m+1=>by rw [List.replicate_succ,List.flatten_cons,List.length_append,JJ w m,Nat.succ_mul,Nat.add_comm]
theorem Qq(z:Array Value)(O:0<z.size):∀m:Nat,((Array.range (m*z.size)).map (z[· % z.size]!)).toList=(List.replicate m z.toList).flatten:=by
 intro m;apply List.ext_getElem?;intro j;simp only [Array.toList_map,Array.toList_range,List.getElem?_map];by_cases K:j<m*z.size
 ·rw [List.getElem?_range K];have W:j / z.size<m:=(Nat.div_lt_iff_lt_mul O).2 K;have U:j % z.size<z.size:=Nat.mod_lt _ O;have hw:(List.replicate m z.toList)[j / z.size]? =some z.toList:=by simp [W]
  have:=GJ (n:=z.size) (wss:=List.replicate m z.toList) (fun ws Z=>by rw [List.eq_of_mem_replicate Z];simp) hw (j % z.size) z[j % z.size] (by simp [U]);rw [show j / z.size*z.size+j % z.size=j from by rw [Nat.mul_comm];exact Nat.div_add_mod _ _] at this;rw [this];simp [U]
 ·have hlen:((List.replicate m z.toList).flatten).length=m*z.size:=by rw [JJ];simp
  rw [List.getElem?_eq_none (by simpa using K),List.getElem?_eq_none (by rw [hlen];omega)];rfl
theorem JS.make{α:Type}{pp:Rp α}{z:Value}{Z:α}{m:Int}{xs:List α}(U:N3 m Z=some xs)
  (aj:ops[i]? =some ⟨d,.makeSlice t x y,ty,p,af,g⟩) (hw:AU L ops ⟨d,.makeSlice t x y,ty,p,af,g⟩=some true) (ak:BR b n ⟨d,.makeSlice t x y,ty,p,af,g⟩=true)
  (al:ev L x=some (iV m)) (W:ev L y=some (iV m)) (ht:P.underlying t=some (.slice e)) (am:Bj P e=some pp.n) {O:Nat} (hb:Dc P e=some O) (aA:O≤64) (an:zeroOf P e=some z) (aB:0<pp.n) (aa:pp.r E z.cells.toList Z) (ao:Ax E H S)
  (h:∀r seg,OL e pp E (some ⟨r,0,none⟩) xs.length seg xs→Ax E H (S++ [seg])→JL J Q b n (AE L d (.slice (some ⟨r,0,none⟩) xs.length xs.length)) ds (.inRegion ops rest::k) cs (Am E H (S++ [seg]))):
  JL J Q b n L ds (.inRegion ops (i::rest)::k) cs (Am E H S):=by
 unfold N3 at U;split at U
 rotate_left
 ·cases U
 rename_i hm;cases U;refine JL.op aj hw ak fun ρ ab=>?_;rw [Pl,ab x _ al,ab y _ W];refine AD _ _ ?_;unfold Instr.makeSlice;refine AD _ _ (Ck ht ?_);simp only [asInt,EV];obtain⟨inf,ap,aq⟩:=It hb;refine AD (x:=typeInfo e) _ (FQ ap ?_);simp only [aq,Gf (show -9223372036854775808≤m∧m≤9223372036854775807 by omega)];have aC:(O:Int)*m≤64*2 ^ 20:=by
  have ae:(O:Int)*m≤64*m:=Int.mul_le_mul_of_nonneg_right (by omega) hm.1;omega
 have ar:((decide (m<0) || decide ((O:Int)*m>2 ^ 48)) || decide (m<0) || decide (m>m))=false:=by
  simp only [Bool.or_eq_false_iff,decide_eq_false_iff_not];omega
 rw [ar];simp only [Bool.false_eq_true,if_false];refine AD (x:=askRoom _) _ ?_;have au:∀{Q:Unit→St→Prop} {X:Halt→St→Prop} (w:Nat),Q () (Am E H S)→lp P (askRoom w) (Am E H S) Q X:=by
  intro Q X w ag;unfold askRoom;split
  ·exact⟨.inl ⟨rfl,rfl⟩,ag⟩
  ·exact ag
 refine au _ ?_;refine AD (x:=Go.sizeOf e) _ (Di am ?_);have ah:z.cells.size=pp.n:=by simpa using pp.len aa
 have fin:∀K:Array Value,((Array.range (m.toNat*pp.n)).map (K[· % K.size]!)).toList=(List.replicate m.toNat z.cells.toList).flatten→lp P (do let a ← newRow e ((Array.range (m.toNat*pp.n)).map (K[· % K.size]!));pure (Value.slice (some a) m.toNat m.toNat)) (Am E H S) (fun a s'=>lp P (pure (Next.value a)) s' (fun nx s'=>match nx with
   | .value v=>JL J Q b n (AE L d v) ds (.inRegion ops rest::k) cs s'
   | .skip=>JL J Q b n (AE L d undef) ds (.inRegion ops rest::k) cs s'
   | _=>False) (fun _ _=>False)) (fun _ _=>False):=by
  intro K av;refine AD _ _ (EX ao fun r ai=>?_);rw [(Db ai).1];have aD:((Array.range (m.toNat*pp.n)).map (K[· % K.size]!)).size=m.toNat*pp.n:=by simp
  have:=h r _ ⟨List.replicate m.toNat z.cells.toList,.inr ⟨r,_,rfl,rfl,by simp,by simp,by
   rw [av,List.take_of_length_le (by rw [JJ];simp [ah])]⟩,by simp,fun i y us W hu=>by
    have:=List.mem_of_getElem? W;have aw:=List.eq_of_mem_replicate this
    have:=List.mem_of_getElem? hu;have ay:=List.eq_of_mem_replicate this
    subst aw ay;exact aa⟩ (Db ai).2
  simp only [List.length_replicate] at this;exact this
 split
 ·rename_i az;have ae:m.toNat=0:=by rcases Nat.mul_eq_zero.1 az with h | h <;> omega
  exact fin #[] (by simp [ae])
 ·refine AD (x:=zeroValue e) _ (D9 an ?_);refine fin z.cells ?_;rw [← ah];exact Qq z.cells (by omega) _
theorem JS.H4{α:Type}{pp:Rp α}(O:ops[i]? =some ⟨d,.buildSlice t 0 #[],ty,p,af,g⟩)(hw:AU L ops ⟨d,.buildSlice t 0 #[],ty,p,af,g⟩=some true)(U:BR b n ⟨d,.buildSlice t 0 #[],ty,p,af,g⟩=true)
  (ht:P.underlying t=some (.slice e)) (W:Bj P e=some pp.n) (Z:Ax E H S)
  (h:∀r seg,OL e pp E (some ⟨r,0,none⟩) 0 seg []→Ax E H (S++ [seg])→JL J Q b n (AE L d (.slice (some ⟨r,0,none⟩) 0 0)) ds (.inRegion ops rest::k) cs (Am E H (S++ [seg]))):
  JL J Q b n L ds (.inRegion ops (i::rest)::k) cs (Am E H S):=by
 refine JL.op O hw U fun ρ ab=>?_;rw [LW];refine AD _ _ ?_;unfold Instr.buildSlice;refine AD _ _ (Ck ht ?_);refine AD _ _ (Di W ?_);rw [if_neg (by omega),if_pos (by omega)];refine AD (x:=pure #[]) _ ?_;simp only [lp,pure,List.map_toArray,List.map_nil,Instr.fill];refine AD _ _ (EX Z fun r K=>?_);rw [(Db K).1];exact h r _ ⟨[],.inr ⟨r,_,rfl,rfl,by simp,Nat.le_refl _,by simp⟩,rfl,fun i x ws aa=>by simp at aa⟩ (Db K).2
theorem Ao.rows{α:Type}{pp:Rp α}{a:Option Addr}{c:Nat}{xs:List α}(W:Ao pp E a c xs):∃wss:List (List Value),wss.length=xs.length∧(∀(i:Nat) x ws,xs[i]? =some x→wss[i]? =some ws→pp.r E ws x)∧
  ((xs= []∧∀ad:Addr,a=some ad→ad.spot=none)∨∃O off,a=some ⟨O,off,none⟩∧∀(i:Nat) ws,wss[i]? =some ws→At E O (off+i*pp.n) ws):=by
 obtain⟨ae,W⟩:=W;rcases W with⟨rfl,aa⟩ | ⟨O,off,rfl,ab⟩
 ·exact⟨[],rfl,fun i x ws U=>by simp at U,.inl ⟨rfl,aa⟩⟩
 ·have Z:∀i:Fin xs.length,∃ws,pp.r E ws xs[i]∧At E O (off+i*pp.n) ws:=fun i=>ab i xs[i] (List.getElem?_eq_getElem i.2);refine⟨List.ofFn fun i=>Classical.choose (Z i),by simp,fun i x ws U hw=>?_,.inr ⟨O,off,rfl,fun i ws hw=>?_⟩⟩
  ·have K:i<xs.length:=(List.getElem?_eq_some_iff.1 U).1;simp [K] at hw;subst hw;rw [List.getElem?_eq_getElem K] at U;cases U;exact(Classical.choose_spec (Z ⟨i,K⟩)).1
  ·have K:i<xs.length:=by have:=(List.getElem?_eq_some_iff.1 hw).1;simpa using this
   simp [K] at hw;subst hw;exact(Classical.choose_spec (Z ⟨i,K⟩)).2
theorem Ik{n:Nat}:∀{wss:List (List Value)},(∀ws∈wss,ws.length=n)→wss.flatten.length=wss.length*n
 | [],_=>by simp
 | ws::wss,h=>by rw [List.flatten_cons,List.length_append,h ws (by simp),Ik fun w hw=>h w (List.mem_cons_of_mem _ hw),List.length_cons,Nat.succ_mul,Nat.add_comm]
theorem JH{n:Nat}:∀{wss:List (List Value)},(∀ws∈wss,ws.length=n)→∀{j:Nat} {w:Value},wss.flatten[j]? =some w→∃(i m:Nat) (ws:List Value),wss[i]? =some ws∧ws[m]? =some w∧j=i*n+m
 | [],_,_,_,h=>by simp at h
 | us::wss,O,j,w,h=>by
  have hu:=O us (by simp)
  rw [List.flatten_cons] at h
  rcases Nat.lt_or_ge j us.length with K | K
  ·rw [List.getElem?_append_left K] at h
   exact⟨0,j,us,rfl,h,by simp⟩
  ·rw [List.getElem?_append_right K] at h;obtain⟨i,m,ws,U,W,Z⟩:=JH (fun ws hw=>O ws (List.mem_cons_of_mem _ hw)) h;exact⟨i+1,m,ws,by simpa using U,W,by rw [Nat.succ_mul];omega⟩
theorem JP{α:Type}{pp:Rp α}{wss O:List (List Value)}{xs ys:List α}(U:wss.length=xs.length)(h:∀(i:Nat) x ws,xs[i]? =some x→wss[i]? =some ws→pp.r E ws x)(W:∀(i:Nat) x ws,ys[i]? =some x→O[i]? =some ws→pp.r E ws x):
  ∀(i:Nat) y us,(xs++ys)[i]? =some y→(wss++O)[i]? =some us→pp.r E us y:=by
 intro i y us K hu;rcases Nat.lt_or_ge i xs.length with hi | hi
 ·rw [List.getElem?_append_left hi] at K;rw [List.getElem?_append_left (by omega)] at hu;exact h i y us K hu
 ·rw [List.getElem?_append_right hi] at K;rw [List.getElem?_append_right (by omega),U] at hu;exact W _ y us K hu
variable {B0:List (Nat×Obj)}
theorem JL.QJ{e t t1:TypeId}{Z am l c m:Nat}{a:Option Addr}{blk:List (Nat×Obj)}{xs ys:List Value}{i:Nat}{rest:List Nat}{d:Option Tmp}{x y:Operand}{ats:Array TypeId}{ty:TypeId}{p:String}{af:Array Edge}{g:Option (Nat×Bool)}{z:Value}{ax:Option Addr}{cx:Nat}{B1:List (Nat×Obj)}
  (ay:ops[i]? =some ⟨d,.call ⟨.builtin .append,#[x,y],ats⟩,ty,p,af,g⟩) (hw:AU L ops ⟨d,.call ⟨.builtin .append,#[x,y],ats⟩,ty,p,af,g⟩=some true) (az:BR b n ⟨d,.call ⟨.builtin .append,#[x,y],ats⟩,ty,p,af,g⟩=true)
  (aA:ev L x=some (.slice a l c)) (aB:ev L y=some (.slice ax m cx)) (aC:ats[0]? =some t) (aD:ats[1]? =some t1) (ht:P.underlying t=some (.slice e)) (aE:P.underlying t1=some (.slice e)) (aF:Bj P e=some Z) (hb:Dc P e=some am) (aG:zeroOf P e=some z) (aH:z.cells.size=Z)
  (aI:0<am) (aJ:am≤64) (aK:l+m≤2 ^ 40) (aL:∀w∈ys,BJ w=true) (aj:GS e Z a l c blk xs) (an:Nd E H (B0++blk++B1)) (hs:Eg (mk E H (B0++blk++B1)) (.slice ax m cx) Z ys)
  (h:∀au ak ao,GS e Z au (l+m) ak ao (xs++ys)→Nd E H (B0++ao)→JL J Q b n (AE L d (.slice au (l+m) ak)) ds (.inRegion ops rest::k) cs (mk E H (B0++ao))):
  JL J Q b n L ds (.inRegion ops (i::rest)::k) cs (mk E H (B0++blk++B1)):=by
 refine JL.op ay hw az fun ρ av=>?_;rw [Ih,av x _ aA,av y _ aB];have aM:Jh (B0++blk++B1) B0.length e Z a l c xs:=by
  rcases aj with⟨K,W,ae,ag,aa⟩ | ⟨ap,f,K,W,ae,ag,aa⟩
  ·exact .inl ⟨K,W,ae,aa⟩
  ·refine .inr ⟨ap,f,K,?_,ae,ag,aa⟩;subst W;simp
 have hlen:=aj.length;refine AD _ _ (JU (pl:=B0.length) aC aD aE ht aF hb aG aH an aM hs aL aI aK aJ ?_ ?_ ?_)
 ·
  intro ap f O al aS aT aN aq ar ab;rcases aj with⟨K,_⟩ | ⟨U,f0,K,W,ae,ag,aa⟩
  ·rw [K] at al;cases al
  ·subst W;have aO:U=ap:=by rw [K] at al;simpa using al
   subst aO;have aP:(B0++ [(U,Obj.cells f0 e (0,0))]++B1).set B0.length (U,.cells O e (0,0))=B0++ [(U,.cells O e (0,0))]++B1:=by
    rw [List.append_assoc,List.append_assoc];exact FZ _ _ _ _
   rw [aP] at ab ⊢;have ah:Nd E H (B0++ [(U,.cells O e (0,0))]):=JL.FY.Nd.left ab;refine JL.drop (B0++ [(U,.cells O e (0,0))]) (fun p ai=>?_) ab (h a c _ (.inr ⟨U,O,K,rfl,aq,aN,ar.symm⟩) ah);exact List.mem_iff_getElem?.1 (List.mem_append_left _ ai)
 ·intro aw hm;rcases aj with⟨K,W,ae,ag,aa⟩ | ⟨U,f0,K,_⟩
  ·subst hm;have aQ:ys= []:=by
    cases ax with
    | none=>exact hs.2
    | some ad=>have:=hs.2.1;simp at this;exact this
   subst W ag aa aQ;have ah:Nd E H (B0++ []):=JL.FY.Nd.left an;exact JL.drop (B0++ []) (fun p ai=>List.mem_iff_getElem?.1 (List.mem_append_left _ ai)) an (h none 0 [] (by simpa using GS.nil) ah)
  ·rw [K] at aw;cases aw
 ·
  intro r O ak aR aq ar ab;have ah:Nd E H (B0++ [(r,.cells O e (0,0))]):=JL.FY.Nd.pick ab;refine JL.drop (B0++ [(r,.cells O e (0,0))]) (fun p ai=>?_) ab (h (some ⟨r,0,none⟩) ak _ (.inr ⟨r,O,rfl,rfl,aq,aR,ar.symm⟩) ah);refine List.mem_iff_getElem?.1 ?_;rcases List.mem_append.1 ai with q | q
  ·simp [q]
  ·exact List.mem_append_right _ q
theorem JS.Om{α:Type}{pp:Rp α}{t1:TypeId}{ae c cx:Nat}{a ax:Option Addr}{seg:Seg}{xs ys ag:List α}{ats:Array TypeId}{z:Value}(j:Nat)(W:CF xs ys=some ag)
  (ap:ops[i]? =some ⟨d,.call ⟨.builtin .append,#[x,y],ats⟩,ty,p,af,g⟩) (hw:AU L ops ⟨d,.call ⟨.builtin .append,#[x,y],ats⟩,ty,p,af,g⟩=some true) (aq:BR b n ⟨d,.call ⟨.builtin .append,#[x,y],ats⟩,ty,p,af,g⟩=true)
  (ar:ev L x=some (.slice a xs.length c)) (au:ev L y=some (.slice ax ys.length cx)) (av:ats[0]? =some t) (aw:ats[1]? =some t1) (ht:P.underlying t=some (.slice e)) (ay:P.underlying t1=some (.slice e)) (az:Bj P e=some pp.n) (hb:Dc P e=some ae) (aA:zeroOf P e=some z) (aB:z.cells.size=pp.n)
  (aC:0<ae) (aD:ae≤64) (ah:OL e pp E a c seg xs) (aj:Ao pp E ax cx ys) (aE:Ax E H S) (ak:S[j]? =some seg)
  (h:∀Z aa seg',OL e pp E Z aa seg' ag→Ax E H (S.set j seg')→JL J Q b n (AE L d (.slice Z ag.length aa)) ds (.inRegion ops rest::k) cs (Am E H (S.set j seg'))):
  JL J Q b n L ds (.inRegion ops (i::rest)::k) cs (Am E H S):=by
 unfold CF at W;split at W
 rotate_left
 ·cases W
 rename_i aF;cases W;obtain⟨wss,ah,al,aG⟩:=ah;obtain⟨aH,am⟩:=Eu aE ak;obtain⟨ab,O,ai,U⟩:=aj.rows;have an:=FW O ai;rw [aH];have aI:∀w∈ab.flatten,BJ w=true:=fun w hw=>by
  obtain⟨us,aJ,hw⟩:=List.mem_flatten.1 hw;obtain⟨q,K⟩:=List.mem_iff_getElem?.1 aJ;have aK:q<ys.length:=by rw [← O];exact(List.getElem?_eq_some_iff.1 K).1
  exact pp.one (ai q _ us (List.getElem?_eq_getElem aK) K) w hw
 have hlen:(xs++ys).length=xs.length+ys.length:=by simp
 have ao:Eg (mk E H ((S.set j []).flatten++seg)) (.slice ax ys.length cx) pp.n ab.flatten:=by
  rcases U with⟨U,aL⟩ | ⟨aV,off,rfl,U⟩
  ·subst U;have:ab= []:=List.eq_nil_of_length_eq_zero O;subst this;cases ax with
   | none=>exact⟨rfl,rfl⟩
   | some ad=>exact⟨aL ad rfl,by simp,Nat.zero_le _,fun q w K=>by simp at K⟩
  ·refine⟨rfl,by rw [Ik an,O],aj.1,fun q w K=>?_⟩;obtain⟨q1,m,ws,aM,aN,aO⟩:=JH an K;have:=(U q1 ws aM).cell (H:=H) (B:=(S.set j []).flatten++seg) aN;subst aO;rw [← Nat.add_assoc];exact this
 have aP:(S.set j []).flatten++seg=(S.set j []).flatten++seg++ []:=(List.append_nil _).symm;rw [aP] at am ao ⊢;refine JL.QJ ap hw aq ar au av aw ht ay az hb aA aB aC aD aF aI ah am ao fun Z aa aQ aR aS=>?_;obtain⟨aT,aU⟩:=FB ak aS;rw [aT];have:=h Z aa aQ ⟨wss++ab,by rw [hlen,List.flatten_append];exact aR,by simp [al,O],JP al aG ai⟩ aU;rw [hlen] at this;exact this
end
end Pal
namespace Pal
open Go Go.Conc
section
variable {P:Program}{J:Judge P}{Q:Goroutine→St→Prop}{b:Frame}{n:Nat}{ds:List Deferred}{ops:Array Oper}{k:List Item}{cs:List Frame}{m fuel:Nat}{D:Nat→Bool}{listed:Array Bool}{L L':Env}{s:St}{E E' H:LH}{S:List Seg}
variable {d:Option Tmp}{x y:Operand}{t u ty e:TypeId}{p:String}{af:Array Edge}{g:Option (Nat×Bool)}{v:Value}{i:Nat}{rest:List Nat}{kd:IntKind}
theorem Au.Cc(h:Sub L' L)(k':Au J Q b n ds ops k cs m D fuel listed L' s):Au J Q b n ds ops k cs m D fuel listed L s:=fun T K=>k' T (K.sub h)
theorem Au.join{K:Nat}{O:Array Bool}(fuel:Nat)(listed:Array Bool)(I:Env→St→Prop)(U:∀L s,I L s→Au J Q b n ds ops k cs m D fuel listed L s)(h:(∀L s,I L s→Au J Q b n ds ops k cs m D fuel listed L s)→Au J Q b n ds ops k cs m D K O L s):Au J Q b n ds ops k cs m D K O L s:=h U
end
def Gb(t:TypeId)(v:Value):Option (Int×Int)→Prop
 | none=>v= .nilIface
 | some (c,a)=>v= .iface t (.agg #[iV c,iV a])
def Hi{α:Type}(p:Rp α)(E:LH)(v:Value):Option α→Prop
 | none=>v= .pointer none
 | some x=>∃K o us,v= .pointer (some ⟨K,o,none⟩)∧At E K o us∧p.r E us x
theorem Hi.mono{α:Type}{p:Rp α}{E E':LH}{v:Value}{d:Option α}(h:Hi p E v d)(hle:Le E E'):Hi p E' v d:=by
 cases d with
 | none=>exact h
 | some x=>obtain⟨K,o,us,O,U,W⟩:=h;exact⟨K,o,us,O,U.mono hle,p.mono hle W⟩
theorem At.tail{E:LH}{K o:Nat}{l ws:List Value}(h:At E K o (l++ws)):At E K (o+l.length) ws:=by
 obtain⟨f,e,fr,O,U⟩:=h;refine⟨f,e,fr,O,fun j w W=>?_⟩;rw [Nat.add_assoc];refine U _ _ ?_;rw [List.getElem?_append_right (by omega)];rw [show l.length+j - l.length=j by omega];exact W
theorem Ob{α:Type}{kk:Nat}{pp:Rp α}{E:LH}{K o:Nat}{ws:List Value}{xs:List α}{m:Int}{x:α}(U:(rA kk pp).r E ws xs)(h:At E K o ws)(hm:ix xs m=some x):∃us,pp.r E us x∧At E K (o+m.toNat*pp.n) us∧0≤m∧m<kk:=by
 obtain⟨W,wss,rfl,Z,O⟩:=U;obtain⟨m,rfl,hm⟩:=Fc hm;have ag:m<xs.length:=(List.getElem?_eq_some_iff.1 hm).1;have hw:wss[m]? =some wss[m]:=List.getElem?_eq_getElem (by omega);refine⟨wss[m],O m x _ hm hw,?_,by omega,by omega⟩;obtain⟨f,e,fr,aa,ab⟩:=h;refine⟨f,e,fr,aa,fun j w ae=>?_⟩;rw [Nat.add_assoc];exact ab _ _ (GJ (FW (Z.trans W.symm) O) hw j w ae)
section
variable {P:Program}{s:St}{ρ:Operand→Value}{x y z:Operand}{d:Option Tmp}{t u ty e:TypeId}{p:String}{af:Array Edge}{g:Option (Nat×Bool)}{v v':Value}
theorem LX{ms:Array (String×TypeId)}{K:TypeId}{o:Option (Int×Int)}{n:Nat}(O:P.underlying t=some (.interface ms))(he:Gb K v o){Q:Bool→St→Prop}{X:Halt→St→Prop}(k:Q o.isNone s):lp P (Op.equalIn (n+1) t v .nilIface) s Q X:=by
 unfold Op.equalIn;refine AD _ _ (Ck O ?_);cases o with
 | none=>obtain rfl:v= .nilIface:=he;exact k
 | some q=>obtain⟨c,a⟩:=q;obtain rfl:v= .iface K (.agg #[iV c,iV a]):=he;exact k
theorem Yl.Kz{ms:Array (String×TypeId)}{K:TypeId}{o:Option (Int×Int)}(O:P.underlying t=some (.interface ms))(he:Gb K v o)(U:ρ x=v)(W:ρ (.const .nilIface)= .nilIface):Yl P ⟨d,.binOp .neq t x (.const .nilIface) u,ty,p,af,g⟩ ρ s (.bool o.isSome):=by
 refine Yl.DL (sm:=do eqGuard .neq t x (.const .nilIface) (ρ x) (ρ (.const .nilIface));binOp .neq t (ρ x) (ρ (.const .nilIface))) rfl ?_
 rw [U,W];have Z:lp P (eqGuard .neq t x (.const .nilIface) v .nilIface) s (fun _ s'=>s'=s) (fun _ _=>False):=by
  cases o with
  | none=>obtain rfl:v= .nilIface:=he;simp [eqGuard,lp,pure]
  | some q=>obtain⟨c,a⟩:=q;obtain rfl:v= .iface K (.agg #[iV c,iV a]):=he;simp [eqGuard,lp,pure]
 refine AD _ _ (Cl _ Z ?_ (fun _ _ h=>h));rintro _ _ rfl;have hb:binOp .neq t v .nilIface=(do pure (.bool (!(← Op.equal t v .nilIface)))):=by
  cases o with
  | none=>obtain rfl:v= .nilIface:=he;rfl
  | some q=>obtain⟨c,a⟩:=q;obtain rfl:v= .iface K (.agg #[iV c,iV a]):=he;rfl
 rw [hb];refine AD (x:=Op.equal t v .nilIface) _ ?_;unfold Op.equal Op.maxDepth;refine LX O he ?_;refine⟨?_,rfl⟩;cases o <;> rfl
theorem Yl.Sz{ms:Array (String×TypeId)}{K:TypeId}{o:Option (Int×Int)}(O:P.underlying t=some (.interface ms))(he:Gb K v o)(U:ρ x=v)(W:ρ (.const .nilIface)= .nilIface):Yl P ⟨d,.binOp .eql t x (.const .nilIface) u,ty,p,af,g⟩ ρ s (.bool o.isNone):=by
 refine Yl.DL (sm:=do eqGuard .eql t x (.const .nilIface) (ρ x) (ρ (.const .nilIface));binOp .eql t (ρ x) (ρ (.const .nilIface))) rfl ?_
 rw [U,W];have Z:lp P (eqGuard .eql t x (.const .nilIface) v .nilIface) s (fun _ s'=>s'=s) (fun _ _=>False):=by
  cases o with
  | none=>obtain rfl:v= .nilIface:=he;simp [eqGuard,lp,pure]
  | some q=>obtain⟨c,a⟩:=q;obtain rfl:v= .iface K (.agg #[iV c,iV a]):=he;simp [eqGuard,lp,pure]
 refine AD _ _ (Cl _ Z ?_ (fun _ _ h=>h));rintro _ _ rfl;have hb:binOp .eql t v .nilIface=(do pure (.bool (← Op.equal t v .nilIface))):=by
  cases o with
  | none=>obtain rfl:v= .nilIface:=he;rfl
  | some q=>obtain⟨c,a⟩:=q;obtain rfl:v= .iface K (.agg #[iV c,iV a]):=he;rfl
 rw [hb];refine AD (x:=Op.equal t v .nilIface) _ ?_;unfold Op.equal Op.maxDepth;refine LX O he ?_;refine⟨?_,rfl⟩
 rfl
end
end Pal
namespace Pal
open Go Go.Conc
section
variable {P:Program}{J:Judge P}{Q:Goroutine→St→Prop}{b:Frame}{n:Nat}{ds:List Deferred}{ops:Array Oper}{k:List Item}{cs:List Frame}{L:Env}{E H:LH}{S:List Seg}
variable {d:Option Tmp}{x y:Operand}{t u ty e:TypeId}{p:String}{af:Array Edge}{g:Option (Nat×Bool)}{i:Nat}{rest:List Nat}{kd:IntKind}
theorem JS.KX{α:Type}{pp:Rp α}{kk K o:Nat}{l ws:List Value}{xs:List α}{xv:α}{m:Int}(U:At E K o (l++ws))(W:(rA kk pp).r E ws xs)(hm:ix xs m=some xv)
  (Z:ops[i]? =some ⟨d,.indexAddr t x y,ty,p,af,g⟩) (hw:AU L ops ⟨d,.indexAddr t x y,ty,p,af,g⟩=some true) (aa:BR b n ⟨d,.indexAddr t x y,ty,p,af,g⟩=true)
  (ab:ev L x=some (.pointer (some ⟨K,o+l.length,none⟩))) (ae:ev L y=some (.int kd m)) (ht:P.underlying t=some (.array kk e)) (ag:Bj P e=some pp.n)
  (h:∀o' us,pp.r E us xv→At E K o' us→JL J Q b n (AE L d (.pointer (some ⟨K,o',none⟩))) ds (.inRegion ops rest::k) cs (Am E H S)):
  JL J Q b n L ds (.inRegion ops (i::rest)::k) cs (Am E H S):=by
 obtain⟨us,ah,ai,aj,ak⟩:=Ob W U.tail hm;refine JL.y (v:= .pointer (some ⟨K,o+l.length+m.toNat*pp.n,none⟩)) Z hw aa (fun ρ O=>?_) (h _ us ah ai);have:=Yl.Nn (P:=P) (s:=Am E H S) (d:=d) (ty:=ty) (p:=p) (af:=af) (g:=g) ht ag (O x _ ab) (O y _ ae) ⟨aj,ak⟩;rw [Bd rfl] at this;exact this
end
end Pal
namespace Pal
open Go Go.Conc
section
variable {P:Program}{s:St}{ρ:Operand→Value}{x y z:Operand}{d:Option Tmp}{t u ty e:TypeId}{p:String}{af:Array Edge}{g:Option (Nat×Bool)}{v v':Value}
theorem MH{t:TypeId}{cells:Array Value}{off:Nat}{v:Value}(ht:CM P t=some false)(K:cells[off]? =some v){Q:Value→St→Prop}{X:Halt→St→Prop}(k:Q v s):lp P (part t cells off) s Q X:=by
 unfold part;refine AD _ _ (Hs ht ?_);simp only [Bool.false_eq_true,if_false,K];exact k
theorem Py{o:BinOp}{c K:Array Value}(O:o= .eql∨o= .neq)(U:P.eqGuardType P.depth t=false){Q:Unit→St→Prop}{X:Halt→St→Prop}(k:Q () s):lp P (eqGuard o t x y (.agg c) (.agg K)) s Q X:=by
 rcases O with rfl | rfl <;> (simp [eqGuard,lp,bind,Sem.bind,program,pure,U];exact k)
end
end Pal
namespace Pal
open Go Go.Conc
section
variable {P:Program}(J:Judge P)(Q:Goroutine→St→Prop)(b:Frame)(n:Nat)(ds:List Deferred)(ops:Array Oper)(k:List Item)(cs:List Frame)(m:Nat)(D:Nat→Bool)
def Take(fuel:Nat)(listed:Array Bool)(L:Env)(s:St)(i:Nat):Prop:=
 ∃o,ops[i]? =some o∧(!Cs o.op)=true∧Bb n o.dst=true∧AU L ops o=some true∧∀ρ,C4 L ρ→lp P (execOp ρ o) (Bg D s) (fun nx s'=>match nx with
  | .value v=>Au J Q b n ds ops k cs m D fuel (AX listed i) (AE L o.dst v) (BP D s s')
  | .skip=>Au J Q b n ds ops k cs m D fuel (AX listed i) (AE L o.dst undef) (BP D s s')
  | .enter f args=>∃R,Cz J f args (BP D s s') R∧∀v K,R v K→K.q=false∧(∀x o,(Bg D s).E x=some o→(Bg D K).E x=some o)∧Au J Q b n ds ops k cs m D fuel (AX listed i) (AE L o.dst v) K
  | _=>False) (fun _ _=>False)
end
section
variable {P:Program}{J:Judge P}{Q:Goroutine→St→Prop}{b:Frame}{n:Nat}{ds:List Deferred}{ops:Array Oper}{k:List Item}{cs:List Frame}{m fuel:Nat}{D:Nat→Bool}{listed:Array Bool}{L:Env}{s:St}{E E' H:LH}{S:List Seg}
variable {d:Option Tmp}{x y:Operand}{t u ty e:TypeId}{p:String}{af:Array Edge}{g:Option (Nat×Bool)}{v:Value}{i:Nat}{kd:IntKind}
theorem JG.MT(U:s.q=false){l:List Nat}(K:Region.ready .any ops listed=l)(W:l≠ [])(h:∀i∈l,Take J Q b n ds ops k cs m D fuel listed L s i):Au J Q b n ds ops k cs m D (fuel+1) listed L s:=
 Au.each U (by rw [K];exact W) fun i hi o O=>by
  rw [K] at hi
  obtain⟨o',Z,aa,ab,ae,ag⟩:=h i hi
  obtain rfl:o'=o:=by rw [Z] at O;exact Option.some.inj O
  exact⟨aa,ab,true,ae,fun e=>(by cases e),fun _=>ag⟩
theorem JG.one(K:s.q=false)(O:Region.ready .any ops listed= [i])(h:Take J Q b n ds ops k cs m D fuel listed L s i):Au J Q b n ds ops k cs m D (fuel+1) listed L s:=
 JG.MT K O (by simp) (by simpa using h)
theorem JG.two{i j:Nat}(K:s.q=false)(O:Region.ready .any ops listed= [i,j])(hi:Take J Q b n ds ops k cs m D fuel listed L s i)(U:Take J Q b n ds ops k cs m D fuel listed L s j):Au J Q b n ds ops k cs m D (fuel+1) listed L s:=
 JG.MT K O (by simp) (by intro q K;simp at K;rcases K with rfl | rfl <;> assumption)
def plus(E:LH)(K:Nat)(o:Obj):LH:=fun x=>if x=K then Option.some o else E x
theorem Rc{jp K:Nat}{o:Obj}(ab:Ax E H S)(ae:S[jp]? =Option.some [(K,o)]):Bg (AA [K]) (Am E H S)=Am (plus E K o) H (S.set jp [])∧Ax (plus E K o) H (S.set jp []):=by
 obtain⟨ah,Z⟩:=Eu ab ae;have aa:=Nd.iff.1 Z;have an:E K=Option.none:=(aa.2 (K,o) (by simp)).1;have ai:H K=Option.none:=(aa.2 (K,o) (by simp)).2;have ag:∀q∈(S.set jp []).flatten,q.1≠K:=fun q U e=>by
  have:=aa.1;rw [List.map_append,List.nodup_append] at this;exact this.2.2 q.1 (List.mem_map_of_mem U) K (by simp) e
 have aj:(Am E H S).get K=Option.some o:=CV (i:=0) ab ae rfl;have ak:∀x,x≠K→AS ((S.set jp []).flatten++ [(K,o)]) H x=AS (S.set jp []).flatten H x:=fun x O=>by
  rw [show AS ((S.set jp []).flatten++ [(K,o)]) H=AS ([(K,o)]++(S.set jp []).flatten) H from Ho Z List.perm_append_comm];simp [AS,O]
 refine⟨?_,?_⟩
 ·unfold Bg;have al:(fun x=>if AA [K] x=true then(Am E H S).get x else(Am E H S).E x)=plus E K o:=by
   funext x;unfold plus;by_cases O:x=K
   ·subst O;simp [AA,aj]
   ·simp [AA,O];rfl
  have am:(fun x=>if AA [K] x=true then Option.none else(Am E H S).H x)=AS (S.set jp []).flatten H:=by
   funext x;by_cases O:x=K
   ·subst O;simp [AA];rw [Hr ag,ai]
   ·simp only [AA,List.contains_cons,List.contains_nil,Bool.or_false,beq_iff_eq,if_neg O];rw [ah];exact ak x O
  rw [al,am];rfl
 ·have W:Nd E H (S.set jp []).flatten:=JL.FY.Nd.left Z;show Nd _ H (S.set jp []).flatten;rw [Nd.iff] at W ⊢;exact⟨W.1,fun q U=>⟨by unfold plus;rw [if_neg (ag q U)];exact(W.2 q U).1,(W.2 q U).2⟩⟩
theorem PO{jp K:Nat}{o:Obj}{S':List Seg}(aj:Ax E H S)(ak:S[jp]? =Option.some [(K,o)])(al:Ax (plus E K o) H S')(Z:S'[jp]? =Option.some []):BP (AA [K]) (Am E H S) (Am (plus E K o) H S')=Am E H (S'.set jp [(K,o)])∧Ax E H (S'.set jp [(K,o)]):=by
 obtain⟨am,ae⟩:=Eu aj ak;have ag:=Nd.iff.1 ae;have an:E K=Option.none:=(ag.2 (K,o) (by simp)).1;have ao:H K=Option.none:=(ag.2 (K,o) (by simp)).2;have aa:(S'.set jp []).flatten=S'.flatten:=by
  have:S'.set jp []=S':=by
   apply List.ext_getElem?;intro q;rw [List.getElem?_set];split
   ·rename_i e;subst e;rw [Z,if_pos (List.getElem?_eq_some_iff.1 Z).1]
   ·rfl
  rw [this]
 have W:=Nd.iff.1 (show Nd _ H S'.flatten from al);have ah:∀q∈S'.flatten,q.1≠K:=fun q O e=>by
  have:=(W.2 q O).1;unfold plus at this;rw [if_pos e] at this;cases this
 have ab:Nd E H ((S'.set jp []).flatten++ [(K,o)]):=by
  rw [aa,Nd.iff,List.map_append,List.nodup_append];refine⟨⟨W.1,by simp,fun x U y ai e=>?_⟩,fun q O=>?_⟩
  ·obtain⟨q,O,rfl⟩:=List.mem_map.1 U;simp at ai;subst ai;exact ah q O e
  ·rcases List.mem_append.1 O with O | O
   ·refine⟨?_,(W.2 q O).2⟩;have:=(W.2 q O).1;unfold plus at this
    rwa [if_neg (ah q O)] at this
   ·simp at O;subst O;exact⟨an,ao⟩
 obtain⟨ap,aq⟩:=FB (seg':= [(K,o)]) Z ab;refine⟨?_,aq⟩;rw [← ap,aa];unfold BP Am mk;congr 1
 ·funext x;show(if AA [K] x=true then E x else plus E K o x)=E x
  by_cases U:x=K
  ·subst U;simp [AA]
  ·simp [AA,U,plus]
 ·funext x;show(if AA [K] x=true then(Am E H S).H x else AS S'.flatten H x)=AS (S'.flatten++ [(K,o)]) H x
  have ar:AS (S'.flatten++ [(K,o)]) H=AS ([(K,o)]++S'.flatten) H:=Ho (by rw [aa] at ab;exact ab) List.perm_append_comm;rw [ar];by_cases U:x=K
  ·subst U;simp only [AA,List.contains_cons,beq_self_eq_true,Bool.true_or,if_true,List.cons_append,List.nil_append,AS];rw [am];show AS ((S.set jp []).flatten++ [(x,o)]) H x=_;rw [show AS ((S.set jp []).flatten++ [(x,o)]) H=AS ([(x,o)]++(S.set jp []).flatten) H from Ho ae List.perm_append_comm];simp [AS]
  ·simp [AA,U,AS]
end
end Pal
namespace Pal
open Go Go.Conc
theorem OL.Su{α:Type}{e:TypeId}{pp:Rp α}{E0 E H:LH}{S:List Seg}{a:Option Addr}{c j:Nat}{seg:Seg}{xs:List α}(U:OL e pp E0 a c seg xs)(aa:Ax E H S)(ab:S[j]? =some seg):∃wss:List (List Value),Eg (Am E H S) (.slice a xs.length c) pp.n wss.flatten∧wss.length=xs.length∧∀(i:Nat) x ws,xs[i]? =some x→wss[i]? =some ws→pp.r E0 ws x:=by
 obtain⟨wss,U,ae,ag⟩:=U;refine⟨wss,?_,ae,ag⟩;rcases U with⟨rfl,ah,Z,W,K⟩ | ⟨ai,f,rfl,rfl,Z,W,K⟩
 ·exact⟨ah,K⟩
 ·have hle:xs.length*pp.n≤f.size:=by rw [Z];exact Nat.mul_le_mul_right _ W
  refine⟨rfl,by rw [K];simp [hle],W,fun q w O=>?_⟩;rw [K,List.getElem?_take] at O;split at O
  ·refine CH aa ab ?_;simpa using O
  ·cases O
section
variable {P:Program}{E H:LH}{S:List Seg}{d:Option Tmp}{x y:Operand}{t ty e:TypeId}{p:String}{af:Array Edge}{g:Option (Nat×Bool)}
theorem MV{E0:LH}{ρ:Operand→Value}{K:Next→St→Prop}{α:Type}{pp:Rp α}{t1:TypeId}{am c cx:Nat}{a ax:Option Addr}{seg aw:Seg}{xs ys an:List α}{ats:Array TypeId}{z:Value}(j aE:Nat)(ai:CF xs ys=some an)
  (aF:ρ x= .slice a xs.length c) (aG:ρ y= .slice ax ys.length cx) (aH:ats[0]? =some t) (aI:ats[1]? =some t1) (ht:P.underlying t=some (.slice e)) (aJ:P.underlying t1=some (.slice e)) (aK:Bj P e=some pp.n) (hb:Dc P e=some am) (aL:zeroOf P e=some z) (aM:z.cells.size=pp.n)
  (aN:0<am) (aO:am≤64) (ag:OL e pp E0 a c seg xs) (aP:OL e pp E0 ax cx aw ys) (ay:Ax E H S) (az:S[j]? =some seg) (aQ:S[aE]? =some aw)
  (h:∀U O g seg',OL e pp E0 U O seg' an→Ax E H (S.set j (g++seg'))→K (.value (.slice U an.length O)) (Am E H (S.set j (g++seg')))):
  lp P (execOp ρ ⟨d,.call ⟨.builtin .append,#[x,y],ats⟩,ty,p,af,g⟩) (Am E H S) K (fun _ _=>False):=by
 unfold CF at ai;split at ai
 rotate_left
 ·cases ai
 rename_i aR;cases ai;obtain⟨aj,aA,ak,ao⟩:=aP.Su ay aQ;obtain⟨wss,ag,aB,aS⟩:=ag;obtain⟨aT,ap⟩:=Eu ay az;have aU:=FW ak ao;have aV:∀w∈aj.flatten,BJ w=true:=fun w hw=>by
  obtain⟨us,aW,hw⟩:=List.mem_flatten.1 hw;obtain⟨q,aC⟩:=List.mem_iff_getElem?.1 aW;have aX:q<ys.length:=by rw [← ak];exact(List.getElem?_eq_some_iff.1 aC).1
  exact pp.one (ao q _ us (List.getElem?_eq_getElem aX) aC) w hw
 have hlen:(xs++ys).length=xs.length+ys.length:=by simp
 rw [aT] at aA ⊢;rw [Ih,aF,aG];have aq:∀{U O seg'},GS e pp.n U (xs.length+ys.length) O seg' (wss.flatten++aj.flatten)→OL e pp E0 U O seg' (xs++ys):=fun aY=>
  ⟨wss++aj,by rw [hlen,List.flatten_append];exact aY,by simp [aB,ak],JP aB aS ao⟩
 have fin:∀U O g seg',OL e pp E0 U O seg' (xs++ys)→Nd E H ((S.set j []).flatten++(g++seg'))→K (.value (.slice U (xs.length+ys.length) O)) (mk E H ((S.set j []).flatten++(g++seg'))):=fun U O g seg' aZ W=>by
  obtain⟨a0,a1⟩:=FB az W;rw [a0];have:=h U O g seg' aZ a1;rw [hlen] at this;exact this
 have a2:Jh ((S.set j []).flatten++seg) (S.set j []).flatten.length e pp.n a xs.length c wss.flatten:=by
  rcases ag with⟨q1,q2,ah,aa,ab⟩ | ⟨ar,f,q1,q2,ah,aa,ab⟩
  ·exact .inl ⟨q1,q2,ah,ab⟩
  ·refine .inr ⟨ar,f,q1,?_,ah,aa,ab⟩;subst q2;simp
 refine AD _ _ (JU (pl:=(S.set j []).flatten.length) aH aI aJ ht aK hb aL aM ap a2 aA aV aN aR aO ?_ ?_ ?_)
 ·intro ar f Z al a9 ba a3 au av W;rcases ag with⟨q1,_⟩ | ⟨ae,f0,q1,q2,ah,aa,ab⟩
  ·rw [q1] at al;cases al
  ·subst q2;have a4:ae=ar:=by rw [q1] at al;simpa using al
   subst a4;have a5:((S.set j []).flatten++ [(ae,Obj.cells f0 e (0,0))]).set (S.set j []).flatten.length (ae,.cells Z e (0,0))=(S.set j []).flatten++ [(ae,.cells Z e (0,0))]:=FZ _ _ _ _;rw [a5] at W ⊢;exact fin a c [] _ (aq (.inr ⟨ae,Z,q1,rfl,au,a3,av.symm⟩)) W
 ·intro aD hm;rcases ag with⟨q1,q2,ah,aa,ab⟩ | ⟨ae,f0,q1,_⟩
  ·have a6:aj.flatten= []:=List.eq_nil_of_length_eq_zero (by rw [Ik aU,ak,hm];simp);have:=fin none 0 [] [] (aq (by rw [q2,hm,ab,a6];exact GS.nil)) (by rw [aa] at ap;simpa using ap);rw [q2,hm] at this;rw [aa];simp only [List.append_nil] at this ⊢;exact this
  ·rw [q1] at aD;cases aD
 ·intro r Z O a7 au av W;have a8:(S.set j []).flatten++seg++ [(r,Obj.cells Z e (0,0))]=(S.set j []).flatten++(seg++ [(r,.cells Z e (0,0))]):=List.append_assoc _ _ _;rw [a8] at W ⊢;exact fin (some ⟨r,0,none⟩) O seg _ (aq (.inr ⟨r,Z,rfl,rfl,au,a7,av.symm⟩)) W
end
section
variable {P:Program}{J:Judge P}{Q:Goroutine→St→Prop}{b:Frame}{n:Nat}{ds:List Deferred}{ops:Array Oper}{k:List Item}{cs:List Frame}{m fuel:Nat}{D:Nat→Bool}{listed:Array Bool}{L:Env}{s:St}{E E' H:LH}{S:List Seg}
variable {d:Option Tmp}{x y:Operand}{t u ty e:TypeId}{p:String}{af:Array Edge}{g:Option (Nat×Bool)}{v:Value}{i:Nat}{kd:IntKind}
theorem Take.Bg{jp K:Nat}{o:Obj}{oi:Oper}(U:Ax E H S)(W:S[jp]? =some [(K,o)])(hi:ops[i]? =some oi)(O:(!Cs oi.op&&Bb n oi.dst)=true)(hw:AU L ops oi=some true)
  (h:∀ρ,C4 L ρ→Ax (plus E K o) H (S.set jp [])→lp P (execOp ρ oi) (Am (plus E K o) H (S.set jp [])) (fun nx s'=>∃v S',nx= .value v∧s'=Am (plus E K o) H S'∧Ax (plus E K o) H S'∧S'[jp]? =some []∧
   (Ax E H (S'.set jp [(K,o)])→Au J Q b n ds ops k cs m (AA [K]) fuel (AX listed i) (AE L oi.dst v) (Am E H (S'.set jp [(K,o)])))) (fun _ _=>False)):
  Take J Q b n ds ops k cs m (AA [K]) fuel listed L (Am E H S) i:=by
 simp only [Bool.and_eq_true] at O;refine⟨oi,hi,O.1,O.2,hw,fun ρ Z=>?_⟩;obtain⟨aa,ab⟩:=Rc U W;rw [aa];refine Cl _ (h ρ Z ab) ?_ (fun _ _ h=>h);rintro nx s' ⟨v,S',rfl,rfl,ae,ag,ah⟩;obtain⟨ai,aj⟩:=PO U W ae ag;show Au J Q b n ds ops k cs m (AA [K]) fuel (AX listed i) (AE L oi.dst v) (BP (AA [K]) (Am E H S) (Am (plus E K o) H S'));rw [ai];exact ah aj
theorem TB{K jp:Nat}{o:Obj}(U:Ax E H S)(W:S[jp]? =some [(K,o)]):Le E (plus E K o):=fun x u O=>by
 have Z:E K=none:=Hz U W
 unfold plus
 rw [if_neg (fun e=>by subst e;rw [Z] at O;cases O)];exact O
theorem Take.lit{jp K:Nat}{o:Obj}{α:Type}{pp:Rp α}{len:Nat}{O:Array (Nat×Operand)}(vs:List Value){z:Value}(xs:List α)(aa:Ax E H S)(U:S[jp]? =some [(K,o)])
  (ab:ops[i]? =some ⟨d,.buildSlice t len O,ty,p,af,g⟩) (hw:AU L ops ⟨d,.buildSlice t len O,ty,p,af,g⟩=some true) (ae:Bb n d=true)
  (ht:P.underlying t=some (.slice e)) (ag:Bj P e=some pp.n) (ah:zeroOf P e=some z) (ai:decide (0<len*pp.n∧len*pp.n≤2 ^ 24)=true)
  (aj:O.toList.mapM (fun q=>(ev L q.2).map fun v=>(q.1,v))=some ((vs.zipIdx 0).map fun q=>(q.2,q.1)))
  (ak:vs.length=len) (al:xs.length=len) (am:F8 pp E xs vs)
  (h:∀r seg,OL e pp E (some ⟨r,0,none⟩) len seg xs→Ax E H (S++ [seg])→Au J Q b n ds ops k cs m (AA [K]) fuel (AX listed i) (AE L d (.slice (some ⟨r,0,none⟩) xs.length len)) (Am E H (S++ [seg]))):
  Take J Q b n ds ops k cs m (AA [K]) fuel listed L (Am E H S) i:=by
 have W:jp<S.length:=(List.getElem?_eq_some_iff.1 U).1;refine Take.Bg aa U ab (by simp [Cs,ae]) hw fun ρ an ao=>Kg an vs xs ht ag ah ai aj ak al am ao fun r seg ap aq=>⟨_,S.set jp []++ [seg],rfl,rfl,aq,by rw [List.getElem?_append_left (by simpa using W)];simp [W],fun Z=>?_⟩;have ar:(S.set jp []++ [seg]).set jp [(K,o)]=S++ [seg]:=by
  rw [List.set_append_left _ _ (by simpa using W),List.set_set];congr 1;apply List.ext_getElem?;intro q;rw [List.getElem?_set];split
  ·rename_i e;subst e;rw [U]
  ·rfl
 rw [ar] at Z ⊢;exact h r seg ap Z
theorem Take.app{jp K:Nat}{o:Obj}{α:Type}{pp:Rp α}{t1:TypeId}{aa c cx:Nat}{a ax:Option Addr}{seg ah:Seg}{xs ys ab:List α}{ats:Array TypeId}{z:Value}(j O:Nat)(ak:Ax E H S)(ae:S[jp]? =some [(K,o)])(al:CF xs ys=some ab)
  (am:ops[i]? =some ⟨d,.call ⟨.builtin .append,#[x,y],ats⟩,ty,p,af,g⟩) (hw:AU L ops ⟨d,.call ⟨.builtin .append,#[x,y],ats⟩,ty,p,af,g⟩=some true) (an:Bb n d=true)
  (ao:ev L x=some (.slice a xs.length c)) (ap:ev L y=some (.slice ax ys.length cx)) (aq:ats[0]? =some t) (ar:ats[1]? =some t1) (ht:P.underlying t=some (.slice e)) (au:P.underlying t1=some (.slice e)) (av:Bj P e=some pp.n) (hb:Dc P e=some aa) (aw:zeroOf P e=some z) (ay:z.cells.size=pp.n)
  (az:0<aa) (aA:aa≤64) (aB:OL e pp E a c seg xs) (aC:OL e pp E ax cx ah ys) (aD:S[j]? =some seg) (aE:S[O]? =some ah) (aF:(j==jp)=false) (aG:(O==jp)=false)
  (h:∀U W g seg',OL e pp E U W seg' ab→Ax E H (S.set j (g++seg'))→Au J Q b n ds ops k cs m (AA [K]) fuel (AX listed i) (AE L d (.slice U ab.length W)) (Am E H (S.set j (g++seg')))):
  Take J Q b n ds ops k cs m (AA [K]) fuel listed L (Am E H S) i:=by
 have aH:jp<S.length:=(List.getElem?_eq_some_iff.1 ae).1;have ag:j≠jp:=by simpa using aF
 have aI:O≠jp:=by simpa using aG
 refine Take.Bg ak ae am (by simp [Cs,an]) hw fun ρ ai aJ=>MV j O al (ai _ _ ao) (ai _ _ ap) aq ar ht au av hb aw ay az aA aB aC aJ (by rw [List.getElem?_set_ne (Ne.symm ag)];exact aD) (by rw [List.getElem?_set_ne (Ne.symm aI)];exact aE) fun U W Z seg' aK aL=>⟨_,(S.set jp []).set j (Z++seg'),rfl,rfl,aL,by rw [List.getElem?_set_ne ag];simp [aH],fun aj=>?_⟩;have aM:((S.set jp []).set j (Z++seg')).set jp [(K,o)]=S.set j (Z++seg'):=by
  rw [List.set_comm _ _ ag,List.set_set];congr 1;apply List.ext_getElem?;intro q;rw [List.getElem?_set];split
  ·rename_i e;subst e;rw [ae]
  ·rfl
 rw [aM] at aj ⊢;exact h U W Z seg' aK aj
end
end Pal
namespace Pal
open Go Go.Conc
section
variable {P:Program}{J:Judge P}{Q:Goroutine→St→Prop}{b:Frame}{n:Nat}{ds:List Deferred}{ops:Array Oper}{k:List Item}{cs:List Frame}{m fuel:Nat}{D:Nat→Bool}{listed:Array Bool}{L:Env}{s:St}{E E' H:LH}{S:List Seg}
variable {d:Option Tmp}{x y:Operand}{t u ty e:TypeId}{p:String}{af:Array Edge}{g:Option (Nat×Bool)}{v:Value}{i:Nat}{kd:IntKind}
theorem Take.Jx{oi:Oper}(hi:ops[i]? =some oi)(K:(!Cs oi.op&&Bb n oi.dst)=true)(hw:AU L ops oi=some true)
  (h:∀ρ,C4 L ρ→lp P (execOp ρ oi) s (fun nx s'=>match nx with
   | .value v=>Au J Q b n ds ops k cs m Dd fuel (AX listed i) (AE L oi.dst v) s'
   | .skip=>Au J Q b n ds ops k cs m Dd fuel (AX listed i) (AE L oi.dst undef) s'
   | _=>False) (fun _ _=>False)):Take J Q b n ds ops k cs m Dd fuel listed L s i:=by
 simp only [Bool.and_eq_true] at K
 refine⟨oi,hi,K.1,K.2,hw,fun ρ U=>Cl _ (h ρ U) ?_ (fun _ _ h=>h)⟩
 intro nx s' O
 cases nx with
 | value v=>exact O
 | skip=>exact O
 | _=>exact O.elim
theorem Take.H4{α:Type}{pp:Rp α}{len:Nat}{K:Array (Nat×Operand)}(vs:List Value){z:Value}(xs:List α)(O:Ax E H S)
  (U:ops[i]? =some ⟨d,.buildSlice t len K,ty,p,af,g⟩) (hw:AU L ops ⟨d,.buildSlice t len K,ty,p,af,g⟩=some true) (W:Bb n d=true)
  (ht:P.underlying t=some (.slice e)) (Z:Bj P e=some pp.n) (aa:zeroOf P e=some z) (ab:decide (0<len*pp.n∧len*pp.n≤2 ^ 24)=true)
  (ae:K.toList.mapM (fun q=>(ev L q.2).map fun v=>(q.1,v))=some ((vs.zipIdx 0).map fun q=>(q.2,q.1)))
  (ag:vs.length=len) (ah:xs.length=len) (ai:F8 pp E xs vs)
  (h:∀r seg,OL e pp E (some ⟨r,0,none⟩) len seg xs→Ax E H (S++ [seg])→Au J Q b n ds ops k cs m Dd fuel (AX listed i) (AE L d (.slice (some ⟨r,0,none⟩) xs.length len)) (Am E H (S++ [seg]))):
  Take J Q b n ds ops k cs m Dd fuel listed L (Am E H S) i:=
 Take.Jx U (by simp [Cs,W]) hw fun ρ aj=>Kg aj vs xs ht Z aa ab ae ag ah ai O fun r seg ak al=>h r seg ak al
theorem Take.app0{α:Type}{pp:Rp α}{t1:TypeId}{U c cx:Nat}{a ax:Option Addr}{seg Z:Seg}{xs ys W:List α}{ats:Array TypeId}{z:Value}(j aa:Nat)(ae:Ax E H S)(ag:CF xs ys=some W)
  (ah:ops[i]? =some ⟨d,.call ⟨.builtin .append,#[x,y],ats⟩,ty,p,af,g⟩) (hw:AU L ops ⟨d,.call ⟨.builtin .append,#[x,y],ats⟩,ty,p,af,g⟩=some true) (ai:Bb n d=true)
  (aj:ev L x=some (.slice a xs.length c)) (ak:ev L y=some (.slice ax ys.length cx)) (al:ats[0]? =some t) (am:ats[1]? =some t1) (ht:P.underlying t=some (.slice e)) (an:P.underlying t1=some (.slice e)) (ao:Bj P e=some pp.n) (hb:Dc P e=some U) (ap:zeroOf P e=some z) (aq:z.cells.size=pp.n)
  (ar:0<U) (au:U≤64) (av:OL e pp E a c seg xs) (aw:OL e pp E ax cx Z ys) (ay:S[j]? =some seg) (az:S[aa]? =some Z)
  (h:∀K O g seg',OL e pp E K O seg' W→Ax E H (S.set j (g++seg'))→Au J Q b n ds ops k cs m Dd fuel (AX listed i) (AE L d (.slice K W.length O)) (Am E H (S.set j (g++seg')))):
  Take J Q b n ds ops k cs m Dd fuel listed L (Am E H S) i:=
 Take.Jx ah (by simp [Cs,ai]) hw fun ρ ab=>MV j aa ag (ab _ _ aj) (ab _ _ ak) al am ht an ao hb ap aq ar au av aw ae ay az fun K O aA seg' aB aC=>h K O aA seg' aB aC
theorem Take.NP{z:Value}(O:Ax E H S)(U:ops[i]? =some ⟨d,.alloc e,ty,p,af,g⟩)(hw:AU L ops ⟨d,.alloc e,ty,p,af,g⟩=some true)(W:Bb n d=true)(Z:zeroOf P e=some z)
  (h:∀r,Ax E H (S++ [[(r,.cells z.cells e (0,0))]])→Au J Q b n ds ops k cs m Dd fuel (AX listed i) (AE L d (.pointer (some ⟨r,0,none⟩))) (Am E H (S++ [[(r,.cells z.cells e (0,0))]]))):
  Take J Q b n ds ops k cs m Dd fuel listed L (Am E H S) i:=
 Take.Jx U (by simp [Cs,W]) hw fun ρ _=>by
  show lp P (do pure (Next.value (← Instr.alloc e true (.tuple #[])))) _ _ _
  refine AD _ _ ?_
  unfold Instr.alloc
  refine AD _ _ (D9 Z ?_)
  refine AD _ _ (EX O fun r K=>?_)
  rw [(Db K).1]
  exact h r (Db K).2
end
end Pal
namespace Pal
open Go Go.Conc
theorem Ef{α:Type}{kk:Nat}{pp:Rp α}{E:LH}{ws:List Value}{xs:List α}(K:(rA kk pp).r E ws xs):ws.length=kk*pp.n:=(rA kk pp).len K
theorem FU{α:Type}{kk:Nat}{pp:Rp α}{E:LH}{ws:List Value}{xs:List α}{m:Int}{x:α}(O:(rA kk pp).r E ws xs)(hm:ix xs m=some x):∃us,pp.r E us x∧0≤m∧m<kk∧(∀j w,us[j]? =some w→ws[m.toNat*pp.n+j]? =some w):=by
 obtain⟨U,wss,rfl,W,K⟩:=O;obtain⟨m,rfl,hm⟩:=Fc hm;have aa:m<xs.length:=(List.getElem?_eq_some_iff.1 hm).1;have hw:wss[m]? =some wss[m]:=List.getElem?_eq_getElem (by omega);exact⟨wss[m],K m x _ hm hw,by omega,by omega,fun j w Z=>GJ (FW (W.trans U.symm) K) hw j w Z⟩
section
variable {P:Program}{J:Judge P}{Q:Goroutine→St→Prop}{b:Frame}{n:Nat}{ds:List Deferred}{ops:Array Oper}{k:List Item}{cs:List Frame}{L:Env}{E H:LH}{S:List Seg}
variable {d:Option Tmp}{x y:Operand}{t u ty e:TypeId}{p:String}{af:Array Edge}{g:Option (Nat×Bool)}{i:Nat}{rest:List Nat}{kd:IntKind}{s:St}{ρ:Operand→Value}
theorem Yl.HU{α:Type}{kk:Nat}{pp:Rp α}{a:Addr}{ws:List Value}{xs:List α}(K:(rA kk pp).r E ws xs)(ht:CM P t=some true)(O:Bj P t=some (kk*pp.n))(U:ρ x= .pointer (some a))(h:∀j v,ws[j]? =some v→s.cell? (a.add j)=some v):Yl P ⟨d,.load t x,ty,p,af,g⟩ ρ s (.agg ws.toArray):=
 Yl.Bp ht (by rw [Ef K];exact O) U h
theorem JS.Tp{α:Type}{pp:Rp α}{kk:Nat}{ws:List Value}{xs:List α}{xv:α}{m:Int}{O:Bool}(W:(rA kk pp).r E ws xs)(hm:ix xs m=some xv)
  (ai:ops[i]? =some ⟨d,.index t x y,ty,p,af,g⟩) (hw:AU L ops ⟨d,.index t x y,ty,p,af,g⟩=some true) (aj:BR b n ⟨d,.index t x y,ty,p,af,g⟩=true)
  (ak:ev L x=some (.agg ws.toArray)) (al:ev L y=some (.int kd m)) (ht:P.underlying t=some (.array kk e)) (Z:Bj P e=some pp.n) (am:CM P e=some O)
  (h:∀us,pp.r E us xv→JL J Q b n (AE L d (if O then .agg us.toArray else us.headD undef)) ds (.inRegion ops rest::k) cs s) (an:O=false→pp.n=1):
  JL J Q b n L ds (.inRegion ops (i::rest)::k) cs s:=by
 obtain⟨us,aa,ao,ap,ab⟩:=FU W hm;have hlen:=pp.len aa;have aq:=Ef W;refine JL.y ai hw aj (fun ρ ae=>?_) (h us aa);refine Yl.DL (sm:=Instr.index t (ρ x) (ρ y)) rfl ?_;rw [ae _ _ ak,ae _ _ al];unfold Instr.index;simp only [asIntOf,EV];refine AD (x:=underlying t) _ (Ck ht ?_);simp only [ao,ap,and_self,if_true];refine AD (x:=Go.sizeOf e) _ (Di Z ?_);unfold Go.part;refine AD (x:=isAgg e) _ (Hs am ?_);have au:m.toNat*pp.n+pp.n≤ws.length:=by
  rw [aq];have:(m.toNat+1)*pp.n≤kk*pp.n:=Nat.mul_le_mul_right _ (by omega);rw [Nat.succ_mul] at this;exact this
 cases O with
 | true=>
  simp only [if_true];refine AD (x:=Go.sizeOf e) _ (Di Z ?_);have ar:ws.toArray.extract (m.toNat*pp.n) (m.toNat*pp.n+pp.n)=us.toArray:=by
   apply Array.ext_getElem?;intro j;by_cases ag:j<us.length
   ·have U:=ab j us[j] (List.getElem?_eq_getElem ag);simp only [Array.getElem?_extract,List.size_toArray,List.getElem?_toArray];rw [if_pos (by omega),U];simp [ag]
   ·rw [Array.getElem?_eq_none (by simp;omega),Array.getElem?_eq_none (by simp;omega)]
  rw [ar];exact⟨rfl,rfl⟩
 | false=>
  have ah:=an rfl;obtain⟨w,rfl⟩:∃w,us= [w]:=by
   match us,hlen with
   | [w],_=>exact⟨w,rfl⟩
   | [],K=>rw [ah] at K;cases K
   | _::_::_,K=>rw [ah] at K;simp at K
  have U:=ab 0 w rfl;simp only [Bool.false_eq_true,if_false,List.getElem?_toArray];rw [Nat.add_zero] at U;rw [U];exact⟨rfl,rfl⟩
end
end Pal
namespace Pal
open Go Go.Conc
theorem OL.TI{α:Type}{e:TypeId}{pp:Rp α}{E:LH}{a:Option Addr}{c:Nat}{seg:Seg}{xs:List α}{m:Int}{x:α}(O:OL e pp E a c seg xs)(hm:ix xs m=some x):
  ∃K f ws,a=some ⟨K,0,none⟩∧seg= [(K,.cells f e (0,0))]∧pp.r E ws x∧(∀j w,ws[j]? =some w→f[m.toNat*pp.n+j]? =some w):=by
 obtain⟨m,rfl,hm⟩:=Fc hm;obtain⟨K,f,ws,U,W,Z,aa,_⟩:=OL.get O hm;exact⟨K,f,ws,U,W,Z,aa⟩
def EJ(S:List Seg):List Nat→Prop
 | []=>True
 | K::bks=>(∃(j:Nat) (o:Obj),S[j]? =some [(K,o)])∧EJ S bks
theorem EJ.mem{S:List Seg}:∀{bks:List Nat},EJ S bks→∀K∈bks,∃(j:Nat) (o:Obj),S[j]? =some [(K,o)]
 | [],_,_,h=>by cases h
 | b::bks,h,K,hb=>by
  rcases List.mem_cons.1 hb with rfl | hb
  ·exact h.1
  ·exact h.2.mem K hb
theorem EJ.free{E H:LH}{S:List Seg}{bks:List Nat}(h:EJ S bks)(K:Ax E H S):∀x,AA bks x=true→E x=none:=fun x O=>by
 obtain⟨j,o,U⟩:=h.mem x (by simpa [AA] using O)
 exact Hz K U
section
variable {P:Program}{J:Judge P}{Q:Goroutine→St→Prop}{b:Frame}{n:Nat}{ds:List Deferred}{ops:Array Oper}{k:List Item}{cs:List Frame}{m fuel:Nat}{D:Nat→Bool}{listed:Array Bool}{L:Env}{s:St}{E E' H:LH}{S:List Seg}
variable {d:Option Tmp}{x y:Operand}{t u ty e:TypeId}{p:String}{af:Array Edge}{g:Option (Nat×Bool)}{v:Value}{i:Nat}{kd:IntKind}
theorem JG.Ja{bks:List Nat}{f:FuncId}{args:Array Operand}{ats:Array TypeId}{vs:List Value}{R:Value→LH→Seg→Prop}(ah:EJ S bks)(ai:As J f vs E [] R)(aj:Region.ready .any ops listed= [i])
  (ak:ops[i]? =some ⟨d,.call ⟨.value (.func f),args,ats⟩,ty,p,af,g⟩) (al:Bb n d=true) (hw:AU L ops ⟨d,.call ⟨.value (.func f),args,ats⟩,ty,p,af,g⟩=some true) (hb:Cv P f=true) (am:evs L args.toList=some vs) (aa:Ax E H S)
  (an:∀v E' seg',Le E E'→R v E' seg'→Ax E' H (S++ [seg'])→Au J Q b n ds ops k cs m (AA bks) fuel (AX listed i) (AE L d v) (Am E' H (S++ [seg']))):
  Au J Q b n ds ops k cs m (AA bks) (fuel+1) listed L (Am E H S):=by
 have ao:=Cz.Fp (ai (AS S.flatten H) trivial) (by rintro v s' ⟨E',B',_,_,_,rfl⟩;rfl);refine Au.call rfl aj ak al hw hb am ao ?_;rintro v aA ⟨⟨E',B',hle,ap,aq,rfl⟩,w,ar⟩;have au:mk E' (AS S.flatten H) B'=mk E' H (B'++S.flatten):=by unfold mk;rw [Ds]
 have av:Nd E' H S.flatten:=Nd.grow aa fun x O=>by
  have aw:=ar.d x O;have U:AS B' (AS S.flatten H) x=none:=aw;exact(Ep U).1
 have ab:Nd E' H (B'++S.flatten):=Nd.glue aq av;have ae:(B'++S.flatten).Perm (S++ [B']).flatten:=by rw [Er];exact List.perm_append_comm
 have ag:Ax E' H (S++ [B']):=Nd.perm ab ae;rw [au,C3 ab ae];refine⟨rfl,fun x o O=>?_,an v E' B' hle ap ag⟩;by_cases W:AA bks x=true
 ·obtain⟨j,o',Z⟩:=ah.mem x (by simpa [AA] using W);have U:(Am E H S).get x=some o':=CV (i:=0) aa Z rfl;have ay:j<S.length:=(List.getElem?_eq_some_iff.1 Z).1;have az:(Am E' H (S++ [B'])).get x=some o':=CV (i:=0) ag (by rw [List.getElem?_append_left ay];exact Z) rfl;have K:(if AA bks x then(Am E H S).get x else E x)=some o:=O
  show(if AA bks x then(Am E' H (S++ [B'])).get x else E' x)=some o
  rw [if_pos W] at K ⊢;rw [az,← U];exact K
 ·have K:(if AA bks x then(Am E H S).get x else E x)=some o:=O
  show(if AA bks x then(Am E' H (S++ [B'])).get x else E' x)=some o
  rw [if_neg W] at K ⊢;exact hle _ _ K
theorem JG.Cn(m:Nat)(bks:List Nat){id:Nat}(O:EJ S bks)(U:Ax E H S)(hm:P.follows .mixedOrders=true)(K:(b.kind != .early)=true)(ht:Du ops m=true)
  (h:Du ops m=true→Au J Q b n ds ops k cs m (AA bks) ops.size (Array.replicate ops.size false) L (Am E H S)):JL J Q b n L ds (.code (.region id ops true)::k) cs (Am E H S):=
 JL.NV m (AA bks) rfl hm K (h ht)
theorem Bh{bks:List Nat}{K o:Nat}{c:Array Value}{f:Nat×Nat}{w:Value}{s':St}(j:Nat)(O:Ax E H S)(U:S[j]? =some [(K,.cells c e f)])(W:AA bks K=true)(hs:∀x o,(Bg (AA bks) (Am E H S)).E x=some o→s'.E x=some o)(hw:c[o]? =some w):s'.cell? ⟨K,o,none⟩=some w:=by
 have Z:(Bg (AA bks) (Am E H S)).E K=some (.cells c e f):=by
  show(if AA bks K then(Am E H S).get K else E K)=_
  rw [if_pos W];exact CV (i:=0) O U rfl
 have aa:=hs _ _ Z;unfold St.cell? St.get;rw [aa];exact hw
theorem Pv{bks:List Nat}{K o:Nat}{c:Array Value}{f:Nat×Nat}{ws:List Value}{s':St}(j:Nat)(U:Ax E H S)(W:S[j]? =some [(K,.cells c e f)])(Z:AA bks K=true)(hs:∀x o,(Bg (AA bks) (Am E H S)).E x=some o→s'.E x=some o)(hw:(c.toList.drop o).take ws.length=ws):∀q w,ws[q]? =some w→s'.cell? (Addr.add ⟨K,o,none⟩ q)=some w:=fun q w O=>by
 rw [Bd rfl]
 refine Bh j U W Z hs ?_
 have aa:q<ws.length:=(List.getElem?_eq_some_iff.1 O).1
 rw [← hw,List.getElem?_take_of_lt aa,List.getElem?_drop,Array.getElem?_toList] at O
 exact O
theorem CS{bks:List Nat}{s':St}(O:Ax E H S)(hs:∀x o,(Bg (AA bks) (Am E H S)).E x=some o→s'.E x=some o)(U:EJ S bks):∀x o,E x=some o→s'.E x=some o:=fun x o K=>hs x o (by
 show(if AA bks x then(Am E H S).get x else E x)=some o
 rw [if_neg (fun W=>by rw [U.free O x W] at K;cases K)];exact K)
end
end Pal
namespace Pal
open Go Go.Conc
theorem Yl.SR{P:Program}{s:St}{ρ:Operand→Value}{x y:Operand}{d:Option Tmp}{t ty e:TypeId}{p:String}{af:Array Edge}{g:Option (Nat×Bool)}{kd:IntKind}{α:Type}{xs:List α}{xv:α}{m:Int}{K c O:Nat}(hm:ix xs m=some xv)(ht:P.underlying t=some (.slice e))(U:Bj P e=some O)(W:ρ x= .slice (some ⟨K,0,none⟩) xs.length c)(Z:ρ y= .int kd m):
  Yl P ⟨d,.indexAddr t x y,ty,p,af,g⟩ ρ s (.pointer (some ⟨K,m.toNat*O,none⟩)):=by
 obtain⟨m,rfl,hm⟩:=Fc hm;have aa:m<xs.length:=(List.getElem?_eq_some_iff.1 hm).1;have:=Yl.HB (P:=P) (s:=s) (d:=d) (ty:=ty) (p:=p) (af:=af) (g:=g) ht U W Z ⟨by omega,by omega⟩;rw [Bd rfl] at this;simpa using this
end Pal
namespace Pal
open Go Go.Conc
def Fs(ws:List Value)(q:Nat)(us:List Value):List Value:=(A0 ws.toArray q us).toList
theorem Iv{ws us:List Value}{q:Nat}(h:q+us.length≤ws.length)(j:Nat):(Fs ws q us)[j]? =if q≤j∧j<q+us.length then us[j - q]? else ws[j]? :=by
 unfold Fs;rw [Array.getElem?_toList,Ir us _ q (by simpa using h)];simp
theorem O9{l ws us:List Value}{q:Nat}(h:q+us.length≤ws.length):A0 (l++ws).toArray (l.length+q) us=(l++Fs ws q us).toArray:=by
 apply Array.ext_getElem?;intro j;rw [Ir us _ _ (by simp;omega)];simp only [List.getElem?_toArray];by_cases O:l.length+q≤j∧j<l.length+q+us.length
 ·rw [if_pos O,List.getElem?_append_right (by omega),Iv h,if_pos (by omega)];congr 1;omega
 ·rw [if_neg O];rcases Nat.lt_or_ge j l.length with K | K
  ·rw [List.getElem?_append_left K,List.getElem?_append_left K]
  ·rw [List.getElem?_append_right K,List.getElem?_append_right K,Iv h,if_neg (by omega)]
theorem Mv{ws us:List Value}(h:us.length=ws.length):Fs ws 0 us=us:=by
 apply List.ext_getElem?;intro j;rw [Iv (by omega)];split
 ·simp
 ·rename_i K;rw [List.getElem?_eq_none (by omega),List.getElem?_eq_none (by omega)]
theorem IB{E H:LH}{S:List Seg}{K:Nat}{l ws:List Value}{e:TypeId}{f:Nat×Nat}(j:Nat)(O:Ax E H S)(U:S[j]? =some [(K,.cells (l++ws).toArray e f)]):∀q v,ws[q]? =some v→(Am E H S).cell? (Addr.add ⟨K,l.length,none⟩ q)=some v:=fun q v W=>by
 rw [Bd rfl]
 refine CH O U ?_
 simp only [List.getElem?_toArray]
 rw [List.getElem?_append_right (by omega)]
 rw [show l.length+q - l.length=q by omega];exact W
theorem PL{E H:LH}{S:List Seg}{K o:Nat}{l ws:List Value}{e:TypeId}{f:Nat×Nat}{w:Value}(j:Nat)(O:Ax E H S)(U:S[j]? =some [(K,.cells (l++ws).toArray e f)])(W:ws[o]? =some w):(Am E H S).cell? ⟨K,l.length+o,none⟩=some w:=by
 have:=IB j O U o w W
 rwa [Bd rfl] at this
theorem Ko{α:Type}{kk:Nat}{pp:Rp α}{E:LH}{ws us:List Value}{xs:List α}{m:Int}{x y:α}(Z:(rA kk pp).r E ws xs)(hm:ix xs m=some x)(hu:pp.r E us y):(rA kk pp).r E (Fs ws (m.toNat*pp.n) us) (xs.set m.toNat y)∧m.toNat*pp.n+us.length≤ws.length:=by
 have ak:=Ef Z;obtain⟨aa,wss,rfl,ab,ae⟩:=Z;obtain⟨m,rfl,hm⟩:=Fc hm;have al:m<xs.length:=(List.getElem?_eq_some_iff.1 hm).1;have ag:=pp.len hu;have am:=FW (ab.trans aa.symm) ae;have ah:m*pp.n+us.length≤wss.flatten.length:=by
  rw [ak,ag];have:(m+1)*pp.n≤kk*pp.n:=Nat.mul_le_mul_right _ (by omega);rw [Nat.succ_mul] at this;exact this
 simp only [Int.toNat_natCast];refine⟨⟨by simpa using aa,wss.set m us,?_,by simpa using ab,fun i an ao O U=>?_⟩,ah⟩
 ·apply List.ext_getElem?;intro j;rw [Iv ah];have key:∀(wss:List (List Value)) (m:Nat) (hm:m<wss.length),(∀ws∈wss,ws.length=pp.n)→∀j,(wss.set m us).flatten[j]? =if m*pp.n≤j∧j<m*pp.n+us.length then us[j - m*pp.n]? else wss.flatten[j]? :=by
   intro wss
   induction wss with
   | nil=>intro m hm;simp at hm
   | cons vs wss ap=>
    intro m hm ai j;have aq:vs.length=pp.n:=ai vs (by simp);cases m with
    | zero=>
     simp only [List.set_cons_zero,List.flatten_cons,Nat.zero_mul,Nat.zero_le,true_and,Nat.zero_add,Nat.sub_zero];split
     ·rename_i K;rw [List.getElem?_append_left K]
     ·rename_i K;rw [List.getElem?_append_right (by omega),List.getElem?_append_right (by omega),ag,aq]
    | succ m=>
     simp only [List.set_cons_succ,List.flatten_cons];have W:(m+1)*pp.n=m*pp.n+pp.n:=Nat.succ_mul _ _;rcases Nat.lt_or_ge j vs.length with K | K
     ·rw [List.getElem?_append_left K,List.getElem?_append_left K,if_neg (by omega)]
     ·rw [List.getElem?_append_right K,List.getElem?_append_right K,ap m (by simpa using hm) (fun ws ar=>ai ws (List.mem_cons_of_mem _ ar))];by_cases aj:m*pp.n≤j - vs.length∧j - vs.length<m*pp.n+us.length
      ·rw [if_pos aj,if_pos (by omega)];congr 1;omega
      ·rw [if_neg aj,if_neg (by omega)]
  exact(key wss m (by omega) am j).symm
 ·rw [List.getElem?_set] at O U;by_cases W:m=i
  ·subst W;rw [if_pos rfl,if_pos al] at O;rw [if_pos rfl,if_pos (by omega)] at U;cases O;cases U;exact hu
  ·rw [if_neg W] at O U;exact ae i an ao O U
theorem G3{α:Type}{kk:Nat}{pp:Rp α}{E:LH}{w:Value}{x:α}(h:pp.r E [w] x):(rA kk pp).r E (List.replicate kk w) (List.replicate kk x):=by
 refine⟨by simp,List.replicate kk [w],?_,by simp,fun i y us K hu=>?_⟩
 ·induction kk with
  | zero=>rfl
  | succ k O=>rw [List.replicate_succ,List.replicate_succ,List.flatten_cons,← O];rfl
 ·have U:=List.eq_of_mem_replicate (List.mem_of_getElem? K);have W:=List.eq_of_mem_replicate (List.mem_of_getElem? hu);subst U W;exact h
section
variable {P:Program}{J:Judge P}{Q:Goroutine→St→Prop}{b:Frame}{n:Nat}{ds:List Deferred}{ops:Array Oper}{k:List Item}{cs:List Frame}{L:Env}{E H:LH}{S:List Seg}
variable {d:Option Tmp}{x y:Operand}{t u ty e:TypeId}{p:String}{af:Array Edge}{g:Option (Nat×Bool)}{i:Nat}{rest:List Nat}{kd:IntKind}{s:St}{ρ:Operand→Value}
theorem Yl.G7{α:Type}{kk:Nat}{pp:Rp α}{ws:List Value}{xs:List α}{xv:α}{m:Int}{K o:Nat}(O:(rA kk pp).r E ws xs)(hm:ix xs m=some xv)(ht:P.underlying t=some (.array kk e))(U:Bj P e=some pp.n)(W:ρ x= .pointer (some ⟨K,o,none⟩))(Z:ρ y= .int kd m):
  Yl P ⟨d,.indexAddr t x y,ty,p,af,g⟩ ρ s (.pointer (some ⟨K,o+m.toNat*pp.n,none⟩)):=by
 obtain⟨us,ae,aa,ab,ag⟩:=FU O hm;have:=Yl.Nn (P:=P) (s:=s) (d:=d) (ty:=ty) (p:=p) (af:=af) (g:=g) ht U W Z ⟨aa,ab⟩;rw [Bd rfl] at this;exact this
theorem JS.HF{K o:Nat}{l ws us:List Value}{v:Value}(j:Nat)(W:ops[i]? =some ⟨d,.store t x y,ty,p,af,g⟩)(hw:AU L ops ⟨d,.store t x y,ty,p,af,g⟩=some true)(Z:BR b n ⟨d,.store t x y,ty,p,af,g⟩=true)(aa:Ax E H S)
  (ab:ev L x=some (.pointer (some ⟨K,l.length+o,none⟩))) (ae:ev L y=some v) (O:v.cells.toList=us) (ag:Bj P t=some us.length) (ah:∀u∈us,BJ u=true) (ai:S[j]? =some [(K,.cells (l++ws).toArray e (0,0))]) (hle:o+us.length≤ws.length)
  (h:Ax E H (S.set j [(K,.cells (l++Fs ws o us).toArray e (0,0))])→JL J Q b n (AE L d undef) ds (.inRegion ops rest::k) cs (Am E H (S.set j [(K,.cells (l++Fs ws o us).toArray e (0,0))]))):
  JL J Q b n L ds (.inRegion ops (i::rest)::k) cs (Am E H S):=by
 have aj:v.cells.size=us.length:=by rw [← O];simp
 refine JS.store (v:=v) (off:=l.length+o) j W hw Z aa ab ae (by rw [aj];exact ag) (by rw [O];exact ah) ai (by simp;omega) fun U=>?_;rw [O,O9 hle] at U ⊢;exact h U
theorem JL.SX{todo:List Item}{K A:Type}{body:K→Option (A8 K A)}{f:Nat}{O:K}{a:A}(U:iter body f O=some a)(I:Env→St→K→Prop)(Z:I L s O)
  (round:∀L s x,I L s x→(∀W,body x=some (.done W)→W=a)→(∃st,body x=some st)→(∀L' s' x',I L' s' x'→body x=some (.more x')→JL J Q b n L' ds todo cs s')→JL J Q b n L ds todo cs s):
  JL J Q b n L ds todo cs s:=by
 induction f generalizing L s O with
 | zero=>cases U
 | succ f aa=>
  exact round L s O Z (fun W h=>Ma U h) (Mc U) fun L' s' x' ab hb=>aa (LV U hb) ab
end
end Pal
namespace Pal
open Go Go.Conc
section
variable {P:Program}{s:St}{ρ:Operand→Value}{x y z:Operand}{d:Option Tmp}{t u ty e:TypeId}{p:String}{af:Array Edge}{g:Option (Nat×Bool)}{v v':Value}{E:LH}
structure K7 (P:Program) (e:TypeId) (kd:IntKind) (f:Field):Prop where
 ht:P.underlying e=some (.struct #[f])
 hs:P.stoodInHeld e=false
 n1:f.name≠ "_"
 u1:P.underlying f.type=some (.int kd)
 o1:f.offset=0
theorem Sb{n:Nat}{kd:IntKind}{a b:Int}(ht:P.underlying t=some (.int kd)){Q:Bool→St→Prop}{X:Halt→St→Prop}(k:Q (a==b) s):lp P (Op.equalIn (n+1) t (.int kd a) (.int kd b)) s Q X:=by
 unfold Op.equalIn;refine AD _ _ (Ck ht ?_);simp only [if_true];exact k
theorem Qk{n:Nat}{kd:IntKind}{f:Field}{a b:Int}(h:K7 P e kd f){Q:Bool→St→Prop}{X:Halt→St→Prop}(k:Q (decide (a=b)) s):lp P (Op.equalIn (n+2) e (.agg #[.int kd a]) (.agg #[.int kd b])) s Q X:=by
 unfold Op.equalIn;refine AD _ _ (Ck h.ht ?_);refine AD (x:=program) _ ?_;show lp P (if P.stoodInHeld e=true then _ else _) s _ _
 rw [if_neg (by rw [h.hs];exact Bool.false_ne_true)];have K:CM P f.type=some false:=by unfold CM;rw [h.u1]
 dsimp only;rw [← Array.forIn_toList];simp only [List.forIn_cons,List.forIn_nil];refine AD _ _ (AD _ _ ?_);rw [if_pos h.n1,h.o1];refine AD _ _ (MH (v:= .int kd a) K rfl ?_);refine AD _ _ (MH (v:= .int kd b) K rfl ?_);refine AD _ _ (Sb h.u1 ?_);by_cases h:a=b
 ·subst h;simpa [lp,pure] using k
 ·simpa [lp,pure,h] using k
theorem Mp{c:Array Value}{off:Nat}{w:Value}(ht:CM P e=some true)(K:Bj P e=some 1)(hw:c[off]? =some w){Q:Value→St→Prop}{X:Halt→St→Prop}(k:Q (.agg #[w]) s):lp P (part e c off) s Q X:=by
 unfold Go.part;refine AD (x:=isAgg e) _ (Hs ht ?_);simp only [if_true];refine AD (x:=Go.sizeOf e) _ (Di K ?_);have O:c.extract off (off+1)= #[w]:=by
  have U:off<c.size:=(Array.getElem?_eq_some_iff.1 hw).1;apply Array.ext_getElem?;intro j;simp only [Array.getElem?_extract];cases j with
  | zero=>rw [if_pos (by omega)];simpa using hw
  | succ j=>rw [if_neg (by omega)];simp
 show Q (.agg (c.extract off (off+1))) s;rw [O];exact k
theorem Qp{n kk:Nat}{kd:IntKind}{f:Field}{ws ws':List Value}{xs O:List Nat}(ht:P.underlying t=some (.array kk e))(h:K7 P e kd f)(aa:Bj P e=some 1)(Z:(rA kk (rN kd)).r E ws xs)(ah:(rA kk (rN kd)).r E ws' O)
  {Q:Bool→St→Prop} {X:Halt→St→Prop} (k:Q (decide (xs=O)) s):lp P (Op.equalIn (n+3) t (.agg ws.toArray) (.agg ws'.toArray)) s Q X:=by
 have ai:CM P e=some true:=by unfold CM;rw [h.ht]
 have az:=Z.1;have aA:=ah.1;have at_:∀{ws:List Value} {xs:List Nat},(rA kk (rN kd)).r E ws xs→∀i,i<kk→∃a,xs[i]? =some a∧ws[i]? =some (.int kd ((a:Nat):Int)):=by
  intro ws xs Z i hi;obtain⟨a,aj⟩:∃a,xs[i]? =some a:=⟨_,List.getElem?_eq_getElem (by rw [Z.1];exact hi)⟩;obtain⟨us,am,_,_,an⟩:=FU (m:=(i:Int)) Z (by unfold ix;simp;exact aj);have ao:us= [.int kd ((a:Nat):Int)]:=am;subst ao;have:=an 0 _ rfl;simp [rN] at this;exact⟨_,aj,this⟩
 unfold Op.equalIn;refine AD _ _ (Ck ht ?_);refine AD (x:=Go.sizeOf e) _ (Di aa ?_)
 dsimp only;simp only [Std.Legacy.Range.forIn_eq_forIn_range',Std.Legacy.Range.size,Nat.sub_zero,Nat.add_one_sub_one,Nat.div_one];let ap:Nat→Option Bool×Unit→Sem (ForInStep (Option Bool×Unit)):=fun i _=>do
  if !(← Op.equalIn (n+2) e (← Go.part e ws.toArray (i*1)) (← Go.part e ws'.toArray (i*1))) then pure (ForInStep.done (some false,())) else pure (ForInStep.yield (none,()))
 have key:∀(m st:Nat),st+m=kk→(∀i,i<st→xs[i]? =O[i]?)→∀{K:Option Bool×Unit→St→Prop},K (if xs=O then(none,()) else(some false,())) s→lp P (forIn (List.range' st m) (none,()) ap:Sem _) s K X:=by
  intro m
  induction m with
  | zero=>
   intro st aq ab K U;have W:xs=O:=by
    apply List.ext_getElem?;intro i;rcases Nat.lt_or_ge i st with hi | hi
    ·exact ab i hi
    ·rw [List.getElem?_eq_none (by omega),List.getElem?_eq_none (by omega)]
   rw [if_pos W] at U;simp only [List.range'_zero,List.forIn_nil];exact U
  | succ m ar=>
   intro st aq ab K U;simp only [List.range'_succ,List.forIn_cons];obtain⟨a,ae,au⟩:=at_ Z st (by omega);obtain⟨c,ag,av⟩:=at_ ah st (by omega);refine AD _ _ ?_;refine AD _ _ (Mp ai aa (by rw [Nat.mul_one];simpa using au) ?_);refine AD _ _ (Mp ai aa (by rw [Nat.mul_one];simpa using av) ?_);refine AD _ _ (Qk h ?_);by_cases ak:a=c
   ·subst ak;simp only [decide_true,Bool.not_true,Bool.false_eq_true,if_false,lp,pure];exact ar (st+1) (by omega) (fun i hi=>by
     rcases Nat.lt_or_ge i st with al | al
     ·exact ab i al
     ·obtain rfl:i=st:=by omega
      rw [ae,ag]) U
   ·have aw:¬xs=O:=fun q=>ak (by rw [q] at ae;rw [ae] at ag;exact Option.some.inj ag);rw [if_neg aw] at U;have ay:¬((a:Nat):Int)=((c:Nat):Int):=by omega
    simp only [ay,decide_false,Bool.not_false,if_true,lp,pure];exact U
 refine AD _ _ (key kk 0 (by omega) (fun i hi=>by omega) ?_);by_cases W:xs=O
 ·rw [if_pos W];simpa [lp,pure,W] using k
 ·rw [if_neg W];simpa [lp,pure,W] using k
def Oi(P:Program)(e:TypeId)(kd:IntKind):Prop:=∃f,K7 P e kd f
theorem Yl.SI{kk:Nat}{kd:IntKind}{ws ws':List Value}{xs K:List Nat}(ht:P.underlying t=some (.array kk e))(O:P.eqGuardType P.depth t=false)(U:Oi P e kd)(W:Bj P e=some 1)(Z:(rA kk (rN kd)).r E ws xs)(aa:(rA kk (rN kd)).r E ws' K)
  (ab:ρ x= .agg ws.toArray) (ae:ρ y= .agg ws'.toArray):Yl P ⟨d,.binOp .neq t x y u,ty,p,af,g⟩ ρ s (.bool (decide (xs≠K))):=by
 obtain⟨f,h⟩:=U;refine Yl.DL (sm:=do eqGuard .neq t x y (ρ x) (ρ y);binOp .neq t (ρ x) (ρ y)) rfl ?_
 rw [ab,ae];refine AD _ _ (Py (.inr rfl) O ?_);have hb:binOp .neq t (.agg ws.toArray) (.agg ws'.toArray)=(do pure (.bool (!(← Op.equal t (.agg ws.toArray) (.agg ws'.toArray))))):=rfl
 rw [hb];refine AD (x:=Op.equal t _ _) _ ?_;unfold Op.equal Op.maxDepth;exact Qp ht h W Z aa ⟨by simp,rfl⟩
end
theorem PU{E H:LH}{S:List Seg}{K o:Nat}{l ws:List Value}{e:TypeId}{f:Nat×Nat}{w:Value}(j:Nat)(U:Ax E H S)(W:S[j]? =some [(K,.cells (l++ws).toArray e f)])(O:l[o]? =some w):(Am E H S).cell? ⟨K,o,none⟩=some w:=by
 refine CH U W ?_;simp only [List.getElem?_toArray];rw [List.getElem?_append_left (List.getElem?_eq_some_iff.1 O).1];exact O
theorem J2{E H:LH}{S:List Seg}{bks:List Nat}{K:Nat}{l ws:List Value}{e:TypeId}{f:Nat×Nat}{s':St}(j:Nat)(O:Ax E H S)(U:S[j]? =some [(K,.cells (l++ws).toArray e f)])(W:AA bks K=true)(hs:∀x o,(Bg (AA bks) (Am E H S)).E x=some o→s'.E x=some o):∀q v,ws[q]? =some v→s'.cell? (Addr.add ⟨K,l.length,none⟩ q)=some v:=fun q v Z=>by
 rw [Bd rfl]
 refine Bh j O U W hs ?_
 simp only [List.getElem?_toArray]
 rw [List.getElem?_append_right (by omega)]
 rw [show l.length+q - l.length=q by omega];exact Z
end Pal
