/- TopClaimed: the claims of a book as words of vouchers: a part (1 of 8) of the proof of its row. -/
import Derived.Conc.Own5
import Derived.Conc.Listed
import Derived.Conc.DeferLaws
import Derived.Orders
import Derived.Conc.Beside
import Derived.Conc.CrowdComm
import Derived.Conc.TokenWalk
import Derived.Conc.MarkLaws
import Derived.Conc.AtomicLaws2
import Derived.Conc.ClockLaws
set_option linter.all false
set_option maxRecDepth 100000
namespace Pal
open Go Go.Conc
theorem V{α:Sort _}{a:α}:a=a:=rfl
abbrev d0:=@Option.some.inj
abbrev d4:=@Nat.le_of_ble_eq_true
abbrev d5:=@if_pos
abbrev d6:=@List.mem_singleton
abbrev d7:=@if_neg
abbrev d8:=@List.getElem?_eq_some_iff
abbrev d9:=@Prod.mk.injEq
abbrev f4:=@Array.getElem?_eq_some_iff
abbrev f5:=@Bool.and_eq_true
abbrev f6:=@Array.getElem?_setIfInBounds_ne
abbrev f7:=@List.mem_cons
abbrev f8:=@Bool.false_ne_true
abbrev f9:=@List.getElem?_eq_getElem
abbrev kA:=@Array.getD_eq_getD_getElem?
abbrev kB:=@List.not_mem_nil
abbrev kC:=@Nat.lt_or_ge
abbrev kD:=@Array.getElem?_setIfInBounds_self_of_lt
abbrev kF:=@Bool.toNat_false
abbrev kG:=@Nat.le_refl
abbrev kI:=@List.getElem?_append_right
abbrev kJ:=@Array.getElem?_eq_none
abbrev kK:=@List.perm_append_comm
abbrev kL:=@List.mem_of_getElem?
abbrev kM:=@List.mem_append
abbrev kN:=@List.getElem?_append_left
abbrev kO:=@List.mem_cons_of_mem
abbrev kP:=@Bool.toNat_true
abbrev kQ:=@List.mem_iff_getElem?
abbrev kR:=@congrArg
abbrev kS:=@Array.getElem?_eq_getElem
abbrev kT:=@List.flatten_cons
abbrev kU:=@Ne.symm
abbrev kV:=@Bool.false_eq_true
abbrev kW:=@List.all_eq_true
abbrev kX:=@List.getElem_mem
abbrev kY:=@List.mem_filter
abbrev kZ:=@decide_eq_false
abbrev k0:=@List.length_cons
abbrev k2:=@List.append_nil
abbrev k3:=@List.mem_map
abbrev k4:=@Nat.eq_zero_or_pos
abbrev k5:=@or_false
abbrev k6:=@Nat.add_zero
abbrev k7:=@List.map_append
abbrev k8:=@decide_eq_true
abbrev k9:=@decide_eq_true_eq
abbrev la:=@Nat.mul_le_mul_right
abbrev lb:=@Nat.lt_of_lt_of_le
abbrev lf:=@Array.ext_getElem?
abbrev lg:=@Option.map_eq_some_iff
abbrev lh:=@List.nil_append
abbrev lj:=@List.cons_append
abbrev ll:=@Nat.succ_mul
abbrev lm:=@List.mem_toArray
abbrev lq:=@Classical.choose_spec
abbrev lr:=@Option.some.injEq
abbrev ls:=@List.nodup_append
abbrev lu:=@Bool.or_eq_true
abbrev lw:=@Nat.pow_le_pow_right
abbrev lx:=@Array.mem_append
abbrev lz:=@Nat.zero_le
abbrev lA:=@List.append_assoc
abbrev lB:=@List.mem_append_right
abbrev lC:=@Array.getElem?_toList
abbrev lD:=@Nat.lt_of_le_of_lt
abbrev lE:=@if_false
abbrev lF:=@List.mem_append_left
abbrev lG:=@List.map_cons
abbrev lH:=@List.mem_range
abbrev lI:=@List.getElem?_map
abbrev lJ:=@Array.ext'
abbrev lK:=@Array.getElem?_modify
abbrev lL:=@if_true
abbrev lM:=@List.getElem?_toArray
abbrev lN:=@List.eq_nil_of_length_eq_zero
abbrev lO:=@Nat.le_trans
abbrev lP:=@List.getElem?_cons_zero
abbrev lQ:=@List.ext_getElem?
abbrev lR:=@List.getElem?_set
abbrev lS:=@List.length_map
abbrev lT:=@Array.getElem?_append_left
abbrev lU:=@List.getElem?_take
abbrev lV:=@Array.getElem?_map
abbrev lW:=@List.length_filter_le
abbrev lX:=@List.mem_or_eq_of_mem_set
abbrev lY:=@Array.mapM_eq_mapM_toList
abbrev lZ:=@Option.isSome_iff_exists
abbrev l1:=@Nat.zero_add
abbrev l2:=@List.getElem?_set_ne
abbrev l3:=@Bool.not_eq_true'
abbrev l4:=@List.filter_cons_of_pos
abbrev l5:=@List.filter_cons_of_neg
abbrev l6:=@Array.all_eq_true'
abbrev l7:=@Nat.min_eq_left
abbrev l8:=@List.length_set
abbrev l9:=@Int.fdiv_eq_ediv_of_nonneg
abbrev ma:=@Bool.toNat_le
abbrev mb:=@beq_iff_eq
abbrev mc:=@List.eraseIdx_append_of_length_le
abbrev md:=@Array.toList_filter
abbrev me:=@Option.bind_eq_some_iff
abbrev mf:=@Nat.add_assoc
abbrev mg:=@List.foldl_cons
abbrev mh:=@Option.map_some
abbrev mi:=@List.length_append
abbrev mj:=@List.filter_append
abbrev ml:=@List.take_of_length_le
abbrev mo:=@Nat.testBit_lt_two_pow
abbrev mp:=@Decidable.not_not
abbrev mq:=@Nat.zero_mul
abbrev mr:=@Array.mem_toList_iff
abbrev mt:=@List.mem_flatten
abbrev mv:=@List.flatten_nil
abbrev mw:=@List.mem_map_of_mem
abbrev mx:=@List.nodup_cons
abbrev my:=@List.length_zip
abbrev mz:=@Nat.and_le_left
abbrev mB:=@List.set_cons_zero
abbrev mC:=@List.set_cons_succ
abbrev mD:=@Array.append_empty
abbrev mE:=@Array.setIfInBounds_comm
abbrev mF:=@List.zip_cons_cons
abbrev mG:=@Bool.eq_false_or_eq_true
abbrev mH:=@Nat.add_mul
abbrev mI:=@Array.getElem?_extract
abbrev mJ:=@List.getElem?_set_self
abbrev mK:=@BitVec.toNat_and
abbrev mL:=@List.take_succ_eq_append_getElem
abbrev mM:=@Array.mem_iff_getElem
abbrev mO:=@Nat.mod_lt
abbrev mP:=@Nat.not_lt_zero
abbrev mQ:=@List.of_mem_zip
abbrev mR:=@Nat.shiftLeft_add_eq_or_of_lt
abbrev mS:=@Array.getElem?_push
abbrev mT:=@List.mapM_cons
abbrev mU:=@List.getElem?_drop
abbrev mV:=@List.pairwise_cons
abbrev mW:=@List.perm_ext_iff_of_nodup
abbrev mX:=@List.size_toArray
abbrev mY:=@Classical.not_not
abbrev mZ:=@Nat.shiftRight_eq_div_pow
abbrev m0:=@Classical.byContradiction
abbrev m1:=@List.getElem?_zip_eq_some
abbrev m2:=@List.mem_of_mem_eraseIdx
abbrev m3:=@List.set_set
abbrev m4:=@List.zipIdx_cons
abbrev m5:=@List.eq_of_mem_replicate
abbrev m6:=@Array.toList_inj
abbrev m7:=@List.getElem?_cons_succ
abbrev m8:=@Nat.testBit_and
abbrev m9:=@List.range_succ
abbrev na:=@List.filter_eq_nil_iff
abbrev nb:=@List.length_singleton
abbrev nc:=@Array.mem_push
abbrev nf:=@BitVec.ofInt_natCast
abbrev ng:=@List.mem_iff_getElem
abbrev nh:=@Nat.eq_of_testBit_eq
abbrev ni:=@List.getElem?_append
abbrev nj:=@Bool.false_or
abbrev nk:=@List.set_comm
abbrev nm:=@Nat.ne_of_lt
abbrev nn:=@Nat.sub_self
abbrev no:=@Nat.add_comm
abbrev np:=@Nat.sub_zero
abbrev tR_(n m:Nat):Array Bool:=⟨List.replicate n true++List.replicate m false⟩
abbrev LH:=Nat->Option Obj
structure St where
 E:LH
 H:LH
 q:Bool
abbrev Ld_:=List Deferred
abbrev Ao_:=Array Oper
abbrev Li_:=List Item
abbrev Lf_:=List Frame
abbrev On_:=Option (Nat×Bool)
abbrev Ae_:=Array Edge
abbrev Gs_:=Goroutine->St->Prop
abbrev Lv_:=List Value
abbrev Av_:=Array Value
def St.get(s:St)(b:Nat):Option Obj:=match s.E b with | some o=>some o | none=>s.H b
structure Fits (s:St) (w:World):Prop where
 e:∀b o,s.E b=some o->w.heap[b]?=some o
 h:∀b o,s.H b=some o->w.heap[b]?=some o
 d:∀b,s.E b≠none->s.H b=none
variable{w:World}{o:Obj}
theorem Fits.get{s:St}(f:Fits s w){b:Nat}(h:s.get b=some o):w.heap[b]?=some o:=by
 unfold St.get at h;split at h;rename_i o' K;cases h;exact f.e _ _ K;exact f.h _ _ h
theorem Fits.Q2{s:St}(f:Fits s w){b:Nat}(h:s.H b=some o):b<w.heap.size:=by
 have:=f.h _ _ h;rcases kC b w.heap.size with K | K;exact K;simp[kJ K] at this
theorem Fits.lt{s:St}(f:Fits s w){b:Nat}(h:s.get b=some o):b<w.heap.size:=by
 have:=f.get h;rcases kC b w.heap.size with K | K;exact K;simp[kJ K] at this
def cellAt(o:Obj)(a:Addr):Option Value:=match o with | .cells c _ _=>if a.spot.isSome then none else c[a.off]? | _=>none
def frozenAt(o:Obj)(a:Addr):Bool:=match o with | .cells _ _ (lo,hi)=>lo<=a.off&&a.off<hi | _=>false
def shapeOf(o:Obj):Option (TypeId×Nat):=match o with | .cells c e _=>some (e,c.size) | _=>none
def A3:Value->Bool | .agg _ | .tuple _=>false | _=>true
def IK(o:Obj)(a:Addr)(v:Value):Obj:=match o with | .cells c e f=>.cells (if a.spot.isSome then c else c.setIfInBounds a.off v) e f | o=>o
def HY(o:Obj):Bool:=match o with | .cells ..=>false | .chan ..=>false | .pending ..=>false | .view ..=>false | .number ..=>false | _=>true
def St.cell? (s:St)(a:Addr):Option Value:=(s.get a.block).bind (cellAt · a)
def St.upd(s:St)(b:Nat)(o:Obj):St:={s with H:=λx=>if x=b then some o else s.H x}
theorem Pb{a:Addr}(h:w.heap[a.block]?=some o):w.cell? a=cellAt o a:=by
 unfold World.cell? cellAt;rw[h];cases o<;>rfl
theorem OM{a:Addr}(h:w.heap[a.block]?=some o):w.frozen? a=frozenAt o a:=by
 unfold World.frozen? frozenAt;rw[h];cases o<;>rfl
theorem RG{b:Nat}(h:w.heap[b]?=some o):w.shape? b=shapeOf o:=by
 unfold World.shape? shapeOf;rw[h];cases o<;>rfl
def lp(P:Program){α:Type}:Sem α->St->(α->St->Prop)->(Halt->St->Prop)->Prop
 | .pure a,s,Q,_=>Q a s
 | .load m a k,s,Q,X=>m=.plain/\∃v,s.cell? a=some v/\lp P (k v) s Q X
 | .store m a v k,s,Q,X=>m=.plain/\A3 v=true/\∃o,s.H a.block=some o/\(cellAt o a).isSome=true/\frozenAt o a=false/\lp P k (s.upd a.block (IK o a v)) Q X
 | .new o k,s,Q,X=>s.q=false/\∀r,s.E r=none->s.H r=none->lp P (k r) (s.upd r o) Q X
 | .shape r k,s,Q,X=>∃o,s.get r=some o/\lp P (k (shapeOf o)) s Q X
 | .freeze _ _ _,_,_,_=>False
 | .frozen a k,s,Q,X=>∃o,s.get a.block=some o/\lp P (k (frozenAt o a)) s Q X
 | .getObj r k,s,Q,X=>∃o,s.get r=some o/\HY o=true/\lp P (k o) s Q X
 | .setObj r o k,s,Q,X=>(∃o₀,s.H r=some o₀/\HY o₀=true)/\HY o=true/\lp P k (s.upd r o) Q X
 | .choose q k,s,Q,X=>if q.forced then lp P (k 0) s Q X else s.q=false/\∀t,lp P (k (q.cut t)) s Q X
 | .sys _ _,_,_,_=>False
 | .program k,s,Q,X=>lp P (k P) s Q X
 | .mark m k,s,Q,X=>((s.q=false/\m=.noRoom)∨∃f,m=.extern f)/\lp P k s Q X
 | .halt h,s,_,X=>X h s
variable{α:Type}
theorem CL{P:Program}(x:Sem α):∀{s:St}{Q V:α->St->Prop}{X Y:Halt->St->Prop},lp P x s Q X->(∀a s,Q a s->V a s)->(∀h s,X h s->Y h s)->lp P x s V Y:=by
 induction x with
 | pure a=>intro s Q V X Y h K O;exact K _ _ h
 | load m a k U=>intro s Q V X Y h K O;obtain⟨h1,v,Z,aa⟩:=h;exact⟨h1,v,Z,U _ aa K O⟩
 | store m a v k U=>intro s Q V X Y h K O;obtain⟨h1,Z,o,aa,ac,ae,ag⟩:=h;exact⟨h1,Z,o,aa,ac,ae,U ag K O⟩
 | new o k U=>intro s Q V X Y h K O;exact⟨h.1,λr h1 Z=>U _ (h.2 r h1 Z) K O⟩
 | shape r k U=>intro s Q V X Y h K O;obtain⟨o,h1,Z⟩:=h;exact⟨o,h1,U _ Z K O⟩
 | freeze a n k U=>intro s Q V X Y h K O;exact h
 | frozen a k U=>intro s Q V X Y h K O;obtain⟨o,h1,Z⟩:=h;exact⟨o,h1,U _ Z K O⟩
 | getObj r k U=>intro s Q V X Y h K O;obtain⟨o,h1,Z,aa⟩:=h;exact⟨o,h1,Z,U _ aa K O⟩
 | setObj r o k U=>intro s Q V X Y h K O;obtain⟨h1,Z,aa⟩:=h;exact⟨h1,Z,U aa K O⟩
 | choose q k U=>
  intro s Q V X Y h K O;simp only[lp] at h ⊢;split;rename_i ab;rw[d5 ab] at h;exact U _ h K O;rename_i ab;rw[d7 ab] at h;exact⟨h.1,λt=>U _ (h.2 t) K O⟩
 | sys c k U=>intro s Q V X Y h K O;exact h
 | program k U=>intro s Q V X Y h K O;exact U _ h K O
 | mark m k U=>intro s Q V X Y h K O;exact⟨h.1,U h.2 K O⟩
 | halt h=>intro s Q V X Y h K O;exact O _ _ h
variable{β:Type}
theorem AG{P:Program}(x:Sem α)(f:α->Sem β):∀{s:St}{Q:β->St->Prop}{X:Halt->St->Prop},lp P x s (λa s'=>lp P (f a) s' Q X) X->lp P (x>>=f) s Q X:=by
 show ∀{s:St}{Q:β->St->Prop}{X:Halt->St->Prop},lp P x s (λa s'=>lp P (f a) s' Q X) X->lp P (Sem.bind x f) s Q X
 induction x with
 | pure a=>intro s Q X h;exact h
 | load m a k K=>intro s Q X h;obtain⟨h1,v,O,U⟩:=h;exact⟨h1,v,O,K _ U⟩
 | store m a v k K=>intro s Q X h;obtain⟨h1,O,o,U,Y,Z,aa⟩:=h;exact⟨h1,O,o,U,Y,Z,K aa⟩
 | new o k K=>intro s Q X h;exact⟨h.1,λr h1 O=>K _ (h.2 r h1 O)⟩
 | shape r k K=>intro s Q X h;obtain⟨o,h1,O⟩:=h;exact⟨o,h1,K _ O⟩
 | freeze a n k K=>intro s Q X h;exact h
 | frozen a k K=>intro s Q X h;obtain⟨o,h1,O⟩:=h;exact⟨o,h1,K _ O⟩
 | getObj r k K=>intro s Q X h;obtain⟨o,h1,O,U⟩:=h;exact⟨o,h1,O,K _ U⟩
 | setObj r o k K=>intro s Q X h;obtain⟨h1,O,U⟩:=h;exact⟨h1,O,K U⟩
 | choose q k K=>
  intro s Q X h;simp only[lp,Sem.bind] at h ⊢;split;rename_i V;rw[d5 V] at h;exact K _ h;rename_i V;rw[d7 V] at h;exact⟨h.1,λt=>K _ (h.2 t)⟩
 | sys c k K=>intro s Q X h;exact h
 | program k K=>intro s Q X h;exact K _ h
 | mark m k K=>intro s Q X h;exact⟨h.1,K h.2⟩
 | halt h=>intro s Q X h;exact h
structure Fr (s:St) (w:World) (s':St) (w':World):Prop where
 size:w.heap.size<=w'.heap.size
 keep:∀b,b<w.heap.size->s.H b=none->w'.heap[b]?=w.heap[b]?
 own:∀b,s'.H b≠none->s.H b≠none∨w.heap.size<=b
 ext:∀b o,s.E b=some o->s'.E b=some o
 Dg:∀b,s'.E b≠none->s.E b≠none∨s.H b≠none∨w.heap.size<=b
 tape:w'.tape=w.tape
 os:w'.os=w.os
 output:w'.output=w.output
theorem Fr.refl(s:St)(w:World):Fr s w s w:=
 ⟨kG _,λ_ _ _=>V,λ_ h=>.inl h,λ_ _ h=>h,λ_ h=>.inl h,V,V,V⟩
variable{U:World}
theorem Fr.trans{s K O:St}{V:World}(h:Fr s w K U)(k:Fr K U O V):Fr s w O V where
 size:=lO h.size k.size
 keep b hb Y:=by
  rw[k.keep b (lb hb h.size) ?_,h.keep b hb Y];by_cases Z:K.H b=none;exact Z;rcases h.own b Z with x | x;exact absurd Y x;omega
 own b hb:=by
  rcases k.own b hb with x | x;exact h.own b x;exact .inr (lO h.size x)
 ext b o aa:=k.ext b o (h.ext b o aa)
 Dg b hb:=by
  rcases k.Dg b hb with x | x | x;exact h.Dg b x;rcases h.own b x with y | y;exact .inr (.inl y);exact .inr (.inr y);exact .inr (.inr (lO h.size x))
 tape:=k.tape.trans h.tape
 os:=k.os.trans h.os
 output:=k.output.trans h.output
def Fl(s:St)(w w':World)(b:Nat)(write:Bool):Prop:=
 b<w'.heap.size/\(s.H b≠none∨w.heap.size<=b∨(s.E b≠none/\write=false))
def Ev(s:St)(w w':World)(e:Event):Prop:=
 match e.loc with
 | .cell a=>e.sync=false/\Fl s w w' a.block e.write
 | .obj r=>e.sync=false/\Fl s w w' r e.write
 | .mark (.extern _)=>True
 | .mark .noRoom=>True
 | _=>False
variable{O w':World}{wr:Bool}
theorem Fl.Ag{s K:St}{b:Nat}(h:Fr s w K O)(V:w'.heap.size<=U.heap.size)(t:Fl K O w' b wr):Fl s w U b wr:=by
 refine⟨lb t.1 V,?_⟩;rcases t.2 with x | x | ⟨x,y⟩;rcases h.own b x with z | z;exact .inl z;exact .inr (.inl z);exact .inr (.inl (lO h.size x));rcases h.Dg b x with z | z | z;exact .inr (.inr ⟨z,y⟩);exact .inl z;exact .inr (.inl z)
theorem Ev.Ag{s K:St}{e:Event}(h:Fr s w K O)(V:w'.heap.size<=U.heap.size)(t:Ev K O w' e):Ev s w U e:=by
 unfold Ev at t ⊢;split<;>rename_i he<;>simp only[he] at t;exact⟨t.1,t.2.Ag h V⟩;exact⟨t.1,t.2.Ag h V⟩;trivial;trivial
def IL{α:Type}:Result α->World | .ok _ w=>w | .halt _ w=>w
def Ww{α:Type}(Q:α->St->Prop)(X:Halt->St->Prop)(s:St):Result α->Prop | .ok a _=>Q a s | .halt h _=>X h s
theorem PF{s:St}{b:Nat}(h:s.get b=some o)(K:s.H b=none):s.E b≠none:=by
 intro e;unfold St.get at h;rw[e] at h;simp only at h;rw[K] at h;cases h
theorem NI{s:St}{b:Nat}(f:Fits s w)(U:s.E b=none)(hb:w'.heap[b]?=some o)(V:∀c,c≠b->∀x,w.heap[c]?=some x->w'.heap[c]?=some x):Fits (s.upd b o) w' where
 e c x K:=by
  have O:c≠b:=λe=>by subst e;simp[St.upd] at K;rw[U] at K;cases K
  exact V c O x (f.e c x K)
 h c x K:=by
  simp only[St.upd] at K;split at K;rename_i e;subst e;cases K;exact hb;rename_i O;exact V c O x (f.h c x K)
 d c K:=by
  have O:c≠b:=λe=>by subst e;exact K U
  simp only[St.upd,d7 O];exact f.d c K
theorem LJ{P:Program}(x:Sem α):∀{s:St}{w:World}{Q:α->St->Prop}{X:Halt->St->Prop},lp P x s Q X->Fits s w->
  ∃s',Fits s' (IL (x.run P w))/\Fr s w s' (IL (x.run P w))/\(∀e∈x.events P w #[],Ev s w (IL (x.run P w)) e)/\Ww Q X s' (x.run P w):=by
 induction x with
 | pure a=>intro s w Q X h f;exact⟨s,f,.refl _ _,by simp[Sem.events_pure'],h⟩
 | load m a k O=>
  intro s w Q X h f;obtain⟨rfl,v,ao,h⟩:=h;let⟨o,K,aB⟩:=me.1 ao;have hw:=f.get K;have ap:w.cell? a=some v:=by rw[Pb hw,aB]
  have U:(Sem.load Mode.plain a k).run P w=(k v).run P w:=by simp[Sem.run,ap]
  have V:(Sem.load Mode.plain a k).events P w #[]=#[⟨.cell a,false,false⟩]++(k v).events P w #[]:=by
   rw[← Sem.events_acc];simp only[Sem.events,Sem.runT,ap];rfl
  rw[U,V];let⟨s',h1,Y,Z,aa⟩:=O v h f;refine⟨s',h1,Y,λe he=>?_,aa⟩;rcases lx.1 he with he | he;simp at he;subst he;refine⟨rfl,lb (f.lt K) Y.size,?_⟩;by_cases aj:s.H a.block=none;refine .inr (.inr ⟨?_,rfl⟩);exact PF K aj;exact .inl aj;exact Z e he
 | store m a v k O=>
  intro s w Q X h f;obtain⟨rfl,ao,o,K,ap,aC,h⟩:=h;have hw:=f.h _ _ K;let⟨u,hu⟩:=lZ.1 ap;have aw:w.cell? a=some u:=by rw[Pb hw,hu]
  have ay:w.frozen? a=false:=by rw[OM hw,aC]
  have aq:=f.Q2 K;obtain⟨au,av,f0,rfl⟩:∃c e f,o=.cells c e f:=by cases o<;>simp[cellAt] at hu;exact⟨_,_,_,rfl⟩
  have aD:(w.setCell a v).heap[a.block]?=some (IK (.cells au av f0) a v):=by
   simp[World.setCell,IK,lK,hw]
  have ak:∀c,c≠a.block->(w.setCell a v).heap[c]?=w.heap[c]? :=by
   intro c ae;simp[World.setCell,lK,kU ae]
  have ac:s.E a.block=none:=by
   cases ac:s.E a.block with
   | none=>rfl
   | some x=>have:=f.d a.block (by rw[ac];simp);rw[K] at this;cases this
  have al:Fits (s.upd a.block (IK (.cells au av f0) a v)) (w.setCell a v):=NI f ac aD (λc ae x ag=>by rw[ak c ae];exact ag);have U:(Sem.store Mode.plain a v k).run P w=k.run P (w.setCell a v):=by
   cases v<;>first | (simp[A3] at ao;done) | simp[Sem.run,aw,ay]
  have V:(Sem.store Mode.plain a v k).events P w #[]=#[⟨.cell a,true,false⟩]++k.events P (w.setCell a v) #[]:=by
   rw[← Sem.events_acc];cases v<;>first | (simp[A3] at ao;done) | (simp only[Sem.events,Sem.runT,aw,ay];rfl)
  have ab:Fr s w (s.upd a.block (IK (.cells au av f0) a v)) (w.setCell a v):=by
   refine⟨by simp[World.setCell],λb hb ah=>ak b (λe=>by subst e;rw[K] at ah;cases ah),λb hb=>?_,λ_ _ h=>h,λ_ h=>.inl h,rfl,rfl,rfl⟩;simp only[St.upd] at hb;split at hb;rename_i e;subst e;exact .inl (by rw[K];simp);exact .inl hb
  rw[U,V];let⟨s',h1,Y,Z,aa⟩:=O h al;refine⟨s',h1,ab.trans Y,λe he=>?_,aa⟩;rcases lx.1 he with he | he;simp at he;subst he;exact⟨rfl,lb aq (ab.trans Y).size,.inl (by rw[K];simp)⟩;exact(Z e he).Ag ab (kG _)
 | new o k O=>
  intro s w Q X h f;have az:s.E w.heap.size=none:=by
   cases ac:s.E w.heap.size with
   | none=>rfl
   | some x=>have:=f.e _ _ ac;simp at this
  have aE:s.H w.heap.size=none:=by
   cases ac:s.H w.heap.size with
   | none=>rfl
   | some x=>have:=f.h _ _ ac;simp at this
  have U:(Sem.new o k).run P w=(k w.heap.size).run P {w with heap:=w.heap.push o}:=by simp[Sem.run]
  have V:(Sem.new o k).events P w #[]=(k w.heap.size).events P {w with heap:=w.heap.push o} #[]:=by simp only[Sem.events,Sem.runT]
  rw[U,V];have al:Fits (s.upd w.heap.size o) {w with heap:=w.heap.push o}:=NI f az (by simp) (λc ae x ag=>by
   have:c<w.heap.size:=by
    rcases kC c w.heap.size with am | am;exact am;simp[kJ am] at ag
   simp[mS,nm this,ag])
  have ab:Fr s w (s.upd w.heap.size o) {w with heap:=w.heap.push o}:=by
   refine⟨by simp,λb hb ah=>by simp[mS,nm hb],λb hb=>?_,λ_ _ h=>h,λ_ h=>.inl h,rfl,rfl,rfl⟩;simp only[St.upd] at hb;split at hb;rename_i e;subst e;exact .inr (kG _);exact .inl hb
  let⟨s',h1,Y,Z,aa⟩:=O _ (h.2 _ az aE) al;exact⟨s',h1,ab.trans Y,λe he=>(Z e he).Ag ab (kG _),aa⟩
 | shape r k O=>
  intro s w Q X h f;obtain⟨o,K,h⟩:=h;have an:=RG (f.get K);have U:(Sem.shape r k).run P w=(k (shapeOf o)).run P w:=by simp[Sem.run,an]
  have V:(Sem.shape r k).events P w #[]=(k (shapeOf o)).events P w #[]:=by simp only[Sem.events,Sem.runT,an]
  rw[U,V];exact O _ h f
 | freeze a n k O=>intro s w Q X h f;exact h.elim
 | frozen a k O=>
  intro s w Q X h f;obtain⟨o,K,h⟩:=h;have an:=OM (a:=a) (f.get K);have U:(Sem.frozen a k).run P w=(k (frozenAt o a)).run P w:=by simp[Sem.run,an]
  have V:(Sem.frozen a k).events P w #[]=(k (frozenAt o a)).events P w #[]:=by simp only[Sem.events,Sem.runT,an]
  rw[U,V];exact O _ h f
 | getObj r k O=>
  intro s w Q X h f;obtain⟨o,K,ar,h⟩:=h;have hw:=f.get K;have U:(Sem.getObj r k).run P w=(k o).run P w:=by cases o<;>simp[HY] at ar<;>simp[Sem.run,hw]
  have V:(Sem.getObj r k).events P w #[]=#[⟨.obj r,false,false⟩]++(k o).events P w #[]:=by
   rw[← Sem.events_acc];cases o<;>simp[HY] at ar<;>(simp only[Sem.events,Sem.runT,hw,Obj.isChan];rfl)
  rw[U,V];let⟨s',h1,Y,Z,aa⟩:=O o h f;refine⟨s',h1,Y,λe he=>?_,aa⟩;rcases lx.1 he with he | he;simp at he;subst he;refine⟨rfl,lb (f.lt K) Y.size,?_⟩;by_cases aj:s.H r=none;refine .inr (.inr ⟨?_,rfl⟩);exact PF K aj;exact .inl aj;exact Z e he
 | setObj r o k O=>
  intro s w Q X h f;obtain⟨⟨o₀,K,aA⟩,ar,h⟩:=h;have hw:=f.h _ _ K;have aq:=f.Q2 K;have ac:s.E r=none:=by
   cases ac:s.E r with
   | none=>rfl
   | some x=>have:=f.d r (by rw[ac];simp);rw[K] at this;cases this
  have U:(Sem.setObj r o k).run P w=k.run P {w with heap:=w.heap.setIfInBounds r o}:=by
   cases o₀<;>simp[HY] at aA<;>simp[Sem.run,hw]
  have V:(Sem.setObj r o k).events P w #[]=#[⟨.obj r,true,false⟩]++k.events P {w with heap:=w.heap.setIfInBounds r o} #[]:=by
   rw[← Sem.events_acc];cases o₀<;>simp[HY] at aA<;>cases o<;>simp[HY] at ar<;>(simp only[Sem.events,Sem.runT,hw,Obj.isChan];rfl)
  have ak:∀c,c≠r->(w.heap.setIfInBounds r o)[c]?=w.heap[c]? :=λc ae=>by simp[kU ae]
  have al:Fits (s.upd r o) {w with heap:=w.heap.setIfInBounds r o}:=NI f ac (by simp[aq]) (λc ae x ag=>by show(w.heap.setIfInBounds r o)[c]?=_;rw[ak c ae];exact ag);have ab:Fr s w (s.upd r o) {w with heap:=w.heap.setIfInBounds r o}:=by
   refine⟨by simp,λb hb ah=>ak b (λe=>by subst e;rw[K] at ah;cases ah),λb hb=>?_,λ_ _ h=>h,λ_ h=>.inl h,rfl,rfl,rfl⟩;simp only[St.upd] at hb;split at hb;rename_i e;subst e;exact .inl (by rw[K];simp);exact .inl hb
  rw[U,V];let⟨s',h1,Y,Z,aa⟩:=O h al;refine⟨s',h1,ab.trans Y,λe he=>?_,aa⟩;rcases lx.1 he with he | he;simp at he;subst he;exact⟨rfl,lb aq (ab.trans Y).size,.inl (by rw[K];simp)⟩;exact(Z e he).Ag ab (kG _)
 | choose q k O=>
  intro s w Q X h f;simp only[lp] at h;by_cases ai:q.forced
  .rw [d5 ai] at h;have U:(Sem.choose q k).run P w=(k 0).run P w:=by simp[Sem.run,ai]
   have V:(Sem.choose q k).events P w #[]=(k 0).events P w #[]:=by simp only[Sem.events,Sem.runT];rw[d5 ai]
   rw[U,V];exact O _ h f
  .rw [d7 ai] at h;have U:(Sem.choose q k).run P w=(k (q.cut (w.tape w.drawn q))).run P {w with drawn:=w.drawn+1}:=by simp[Sem.run,ai]
   have V:(Sem.choose q k).events P w #[]=(k (q.cut (w.tape w.drawn q))).events P {w with drawn:=w.drawn+1} #[]:=by simp only[Sem.events,Sem.runT];rw[d7 ai]
   rw[U,V];have ab:Fr s w s {w with drawn:=w.drawn+1}:=⟨kG _,λ_ _ _=>rfl,λ_ h=>.inl h,λ_ _ h=>h,λ_ h=>.inl h,rfl,rfl,rfl⟩;let⟨s',h1,Y,Z,aa⟩:=O _ (h.2 (w.tape w.drawn q)) (⟨f.e,f.h,f.d⟩:Fits s {w with drawn:=w.drawn+1});exact⟨s',h1,ab.trans Y,λe he=>(Z e he).Ag ab (kG _),aa⟩
 | sys c k O=>intro s w Q X h f;exact h.elim
 | program k O=>
  intro s w Q X h f;have U:(Sem.program k).run P w=(k P).run P w:=by simp[Sem.run]
  have V:(Sem.program k).events P w #[]=(k P).events P w #[]:=by simp only[Sem.events,Sem.runT]
  rw[U,V];exact O _ h f
 | mark m k O=>
  intro s w Q X h f;have U:(Sem.mark m k).run P w=k.run P w:=by simp[Sem.run]
  have V:(Sem.mark m k).events P w #[]=#[⟨.mark m,false,true⟩]++k.events P w #[]:=by
   rw[← Sem.events_acc];simp only[Sem.events,Sem.runT];rfl
  rw[U,V];obtain⟨hm,h⟩:=h;let⟨s',h1,Y,Z,aa⟩:=O h f;refine⟨s',h1,Y,λe he=>?_,aa⟩;rcases lx.1 he with he | he;simp at he;subst he;rcases hm with⟨_,rfl⟩ | ⟨g,rfl⟩<;>trivial;exact Z e he
 | halt h=>intro s w Q X am f;exact⟨s,f,.refl _ _,by simp[Sem.events_halt],am⟩
variable{es:Array Event}
theorem OH{P:Program}{fn:FuncId}(h:∀e∈es,∃f,e.loc=.mark (.extern f)):seen P fn es=#[]:=by
 rw[seen_def];have:∀(l:List Event) (q:Bool),(∀e∈l,∃f,e.loc=.mark (.extern f))->(l.foldl (seenStep λf=>(P.funcs[f]?).any (·.norace)) (q,#[])).2=#[]:=by
  intro l
  induction l with
  | nil=>intro q _;rfl
  | cons e l K=>
   intro q h;obtain⟨f,O⟩:=h e (by simp);rw[mg];have:seenStep (λf=>(P.funcs[f]?).any (·.norace)) (q,#[]) e=((P.funcs[f]?).any (·.norace),#[]):=by simp[seenStep,O]
   rw[this];exact K _ λx U=>h x (by simp[U])
 exact this es.toList _ λe he=>h e (mr.1 he)
def St.quiet:St:=⟨λ_=>none,λ_=>none,true⟩
theorem NF{P:Program}(x:Sem α):∀{Q:α->St->Prop}{X:Halt->St->Prop},lp P x .quiet Q X->
  ∃es,(∀w,x.events P w #[]=es)/\(∀e∈es,∃f,e.loc=.mark (.extern f))/\((∃a,Q a .quiet/\(∀w,x.run P w=.ok a w))∨(∃a,X a .quiet/\(∀w,x.run P w=.halt a w))):=by
 induction x with
 | pure a=>intro Q X h;exact⟨#[],λw=>by simp[Sem.events_pure'],by simp,.inl ⟨a,h,λw=>rfl⟩⟩
 | load m a k K=>intro Q X h;obtain⟨_,v,V,_⟩:=h;simp[St.cell?,St.get,St.quiet] at V
 | store m a v k K=>intro Q X h;obtain⟨_,_,o,Y,_⟩:=h;cases Y
 | new o k K=>intro Q X h;cases h.1
 | shape r k K=>intro Q X h;obtain⟨o,h1,_⟩:=h;simp[St.get,St.quiet] at h1
 | freeze a n k K=>intro Q X h;exact h.elim
 | frozen a k K=>intro Q X h;obtain⟨o,h1,_⟩:=h;simp[St.get,St.quiet] at h1
 | getObj r k K=>intro Q X h;obtain⟨o,h1,_⟩:=h;simp[St.get,St.quiet] at h1
 | setObj r o k K=>intro Q X h;obtain⟨⟨o,h1,_⟩,_⟩:=h;cases h1
 | choose q k K=>
  intro Q X h;simp only[lp] at h;by_cases O:q.forced
  .rw [d5 O] at h;have U:∀w,(Sem.choose q k).run P w=(k 0).run P w:=λw=>by simp[Sem.run,O]
   have e2:∀w,(Sem.choose q k).events P w #[]=(k 0).events P w #[]:=λw=>by simp only[Sem.events,Sem.runT];rw[d5 O]
   simpa only[U,e2] using K _ h
  .rw [d7 O] at h;cases h.1
 | sys c k K=>intro Q X h;exact h.elim
 | program k K=>
  intro Q X h;have U:∀w,(Sem.program k).run P w=(k P).run P w:=λw=>by simp[Sem.run]
  have e2:∀w,(Sem.program k).events P w #[]=(k P).events P w #[]:=λw=>by simp only[Sem.events,Sem.runT]
  simpa only[U,e2] using K _ h
 | mark m k K=>
  intro Q X h;obtain⟨hm,h⟩:=h;obtain⟨es,h1,V,Y⟩:=K h;have U:∀w,(Sem.mark m k).run P w=k.run P w:=λw=>by simp[Sem.run]
  have e2:∀w,(Sem.mark m k).events P w #[]=#[⟨.mark m,false,true⟩]++k.events P w #[]:=λw=>by rw[← Sem.events_acc];simp only[Sem.events,Sem.runT];rfl
  refine⟨#[⟨.mark m,false,true⟩]++es,λw=>by rw[e2,h1],λe he=>?_,by simpa only[U] using Y⟩;rcases lx.1 he with he | he;simp at he;subst he;rcases hm with⟨O,_⟩ | hm;cases O;obtain⟨f,rfl⟩:=hm;exact⟨f,rfl⟩;exact V e he
 | halt h=>intro Q X Z;exact⟨#[],λw=>by simp[Sem.events_halt],by simp,.inr ⟨h,Z,λw=>rfl⟩⟩
def QC(P:Program)(main:Bool)(g:Goroutine)(s:St)(K:Gs_):Prop:=
 g.status=.running/\(∀w,Fits s w->
  ∃g' s' w' es,stepG P main g w=.go g' w' es/\K g' s'/\Fits s' w'/\Fr s w s' w'/\(∀e∈es,Ev s w w' e))/\
  (s=.quiet->∃g',(∀w,stepG P main g w=.go g' w #[])/\K g' .quiet)
structure BA (s s₀:St):Prop where
 ext:∀b o,s.E b=some o->s₀.E b=some o
 own:∀b o,s₀.H b=some o->s.H b=some o
 Dg:∀b o,s₀.E b=some o->s.E b=some o∨(s.H b=some o/\s₀.H b=none)
 q:s₀.q=s.q
theorem BA.refl(s:St):BA s s:=⟨λ_ _ h=>h,λ_ _ h=>h,λ_ _ h=>.inl h,V⟩
variable{s₀:St}
theorem BA.fits{s:St}(g:BA s s₀)(f:Fits s w):Fits s₀ w where
 e b o h:=by
  rcases g.Dg b o h with x | x;exact f.e _ _ x;exact f.h _ _ x.1
 h b o h:=f.h _ _ (g.own _ _ h)
 d b h:=by
  cases K:s₀.E b with
  | none=>exact absurd K h
  | some o=>
   rcases g.Dg b o K with x | x
   .cases O:s₀.H b with
    | none=>rfl
    | some y=>have:=g.own _ _ O;rw[f.d b (by rw[x];simp)] at this;cases this
   .exact x.2
theorem Gv{x:Option α}(h:x≠none):∃a,x=some a:=by cases x<;>simp at h;exact⟨_,rfl⟩
theorem BA.fr{s s':St}(g:BA s s₀)(f:Fr s₀ w s' w'):Fr s w s' w' where
 size:=f.size
 keep b hb O:=f.keep b hb (by
  cases h:s₀.H b with
  | none=>rfl
  | some o=>rw[g.own _ _ h] at O;cases O)
 own b hb:=(f.own b hb).imp (λh=>by let⟨o,K⟩:=Gv h;rw[g.own _ _ K];simp) id
 ext b o h:=f.ext _ _ (g.ext _ _ h)
 Dg b hb:=by
  rcases f.Dg b hb with h | h | h;let⟨o,K⟩:=Gv h;rcases g.Dg _ _ K with x | x;exact .inl (by rw[x];simp);exact .inr (.inl (by rw[x.1];simp));let⟨o,K⟩:=Gv h;exact .inr (.inl (by rw[g.own _ _ K];simp));exact .inr (.inr h)
 tape:=f.tape
 os:=f.os
 output:=f.output
theorem BA.Fl{s:St}{b:Nat}(g:BA s s₀)(t:Fl s₀ w w' b wr):Fl s w w' b wr:=by
 refine⟨t.1,?_⟩;rcases t.2 with h | h | ⟨h,hw⟩;let⟨o,K⟩:=Gv h;exact .inl (by rw[g.own _ _ K];simp);exact .inr (.inl h);let⟨o,K⟩:=Gv h;rcases g.Dg _ _ K with x | x;exact .inr (.inr ⟨by rw[x];simp,hw⟩);exact .inl (by rw[x.1];simp)
theorem BA.ev{s:St}{e:Event}(g:BA s s₀)(t:Ev s₀ w w' e):Ev s w w' e:=by
 unfold Ev at t ⊢;split<;>rename_i he<;>simp only[he] at t;exact⟨t.1,g.Fl t.2⟩;exact⟨t.1,g.Fl t.2⟩;trivial;trivial
theorem BA.quiet(g:BA .quiet s₀):s₀=.quiet:=by
 obtain⟨E,H,q⟩:=s₀;have h1:E=λ_=>none:=by
  funext b;cases h:E b with
  | none=>rfl
  | some o=>rcases g.Dg b o h with x | ⟨x,_⟩<;>cases x
 have K:H=λ_=>none:=by
  funext b;cases h:H b with
  | none=>rfl
  | some o=>cases g.own b o h
 have O:q=true:=g.q;subst h1 K O;rfl
inductive Rk:Type where
 | leaf:Rk
 | node (f:World->Rk):Rk
def Rk.sub(a b:Rk):Prop:=∃f w,b=.node f/\a=f w
theorem Rk.wf:WellFounded Rk.sub:=⟨λr=>by
 induction r with
 | leaf=>exact⟨_,λa ⟨f,w,h,_⟩=>by cases h⟩
 | node f K=>exact⟨_,λa ⟨g,w,h,e⟩=>by cases h;subst e;exact K w⟩⟩
def Jr(P:Program)(main:Bool)(Q:Gs_):Rk->Gs_
 | .leaf,g,s=>Q g s
 | .node f,g,s=>Q g s∨(g.status=.running/\∀w,Fits s w->
  ∃g' s' w' es,stepG P main g w=.go g' w' es/\Jr P main Q (f w) g' s'/\Fits s' w'/\Fr s w s' w'/\(∀e∈es,Ev s w w' e)/\(s=.quiet->s'=.quiet/\w'=w/\es=#[]))
structure Judge (P:Program) where
 main:Bool
 ok:(Gs_)->Gs_
 stop:∀{Q g s},Q g s->ok Q g s
 step:∀{Q g s},QC P main g s (ok Q)->ok Q g s
 trans:∀{Q R g s},ok Q g s->(∀g' s',Q g' s'->ok R g' s')->ok R g s
 ghost:∀{Q g s s₀},BA s s₀->ok Q g s₀->ok Q g s
def JQ(Q:Gs_)(g:Goroutine)(s:St):Prop:=∃s₀,BA s s₀/\Q g s₀
theorem BA.trans{a b c:St}(h:BA a b)(k:BA b c):BA a c where
 ext x o y:=k.ext _ _ (h.ext _ _ y)
 own x o y:=h.own _ _ (k.own _ _ y)
 Dg x o y:=by
  rcases k.Dg x o y with z | z
  .rcases h.Dg x o z with u | u;exact .inl u
   .refine .inr ⟨u.1,?_⟩;cases K:c.H x with
    | none=>rfl
    | some v=>have:=k.own _ _ K;rw[u.2] at this;cases this
  .exact .inr ⟨h.own _ _ z.1,z.2⟩
 q:=k.q.trans h.q
def AF(P:Program)(main:Bool):Judge P where
 main:=main
 ok Q g s:=∃r,Jr P main (JQ Q) r g s
 stop h:=⟨.leaf,_,.refl _,h⟩
 step {Q g s} h:=by
  obtain⟨O,h,hu⟩:=h;have aa:∀w,∃r:Rk,Fits s w->∃g' s' w' es,stepG P main g w=.go g' w' es/\Jr P main (JQ Q) r g' s'/\Fits s' w'/\Fr s w s' w'/\(∀e∈es,Ev s w w' e)/\(s=.quiet->s'=.quiet/\w'=w/\es=#[]):=by
   intro w;by_cases f:Fits s w
   .by_cases e:s=.quiet
    .let⟨g',h1,r,K⟩:=hu e;exact⟨r,λ_=>⟨g',.quiet,w,#[],h1 w,K,e▸f,e▸ .refl _ _,by simp,λ_=>⟨rfl,rfl,rfl⟩⟩⟩
    .let⟨g',s',w',es,h1,⟨r,K⟩,Y,ab,ac⟩:=h w f;exact⟨r,λ_=>⟨g',s',w',es,h1,K,Y,ab,ac,λx=>absurd x e⟩⟩
   .exact⟨.leaf,λx=>absurd x f⟩
  exact⟨.node λw=>Classical.choose (aa w),.inr ⟨O,λw f=>lq (aa w) f⟩⟩
 trans {Q R g s} h k:=by
  obtain⟨r,h⟩:=h;have ag:∀(r:Rk) {g:Goroutine}{s s₀:St},BA s s₀->Jr P main (JQ R) r g s₀->Jr P main (JQ R) r g s:=by
   intro r g s s₀ U V;cases r with
   | leaf=>obtain⟨Z,h1,K⟩:=V;exact⟨Z,U.trans h1,K⟩
   | node f=>
    rcases V with⟨Z,h1,K⟩ | ⟨O,V⟩
    .exact .inl ⟨Z,U.trans h1,K⟩
    .exact .inr ⟨O,λw f=>let ⟨g',s',w',es,h1,K,Y,ab,ac,ae⟩:=V w (U.fits f);⟨g',s',w',es,h1,K,Y,U.fr ab,λe he=>U.ev (ac e he),λe=>ae (by subst e;exact U.quiet)⟩⟩
  induction r generalizing g s with
  | leaf=>
   obtain⟨s₀,h1,K⟩:=h;let⟨r,O⟩:=k _ _ K;exact⟨r,ag r h1 O⟩
  | node f ai=>
   rcases h with⟨s₀,h1,K⟩ | ⟨O,h⟩
   .let⟨r,O⟩:=k _ _ K;exact⟨r,ag r h1 O⟩
   .have aa:∀w,∃r:Rk,Fits s w->∃g' s' w' es,stepG P main g w=.go g' w' es/\Jr P main (JQ R) r g' s'/\Fits s' w'/\Fr s w s' w'/\(∀e∈es,Ev s w w' e)/\(s=.quiet->s'=.quiet/\w'=w/\es=#[]):=by
     intro w;by_cases ah:Fits s w
     .let⟨g',s',w',es,h1,K,Y⟩:=h w ah;let⟨r,O⟩:=ai w K;exact⟨r,λ_=>⟨g',s',w',es,h1,O,Y⟩⟩
     .exact⟨.leaf,λx=>absurd x ah⟩
    exact⟨.node λw=>Classical.choose (aa w),.inr ⟨O,λw f=>lq (aa w) f⟩⟩
 ghost {Q g s s₀} U h:=by
  obtain⟨r,V⟩:=h;refine⟨r,?_⟩;cases r with
  | leaf=>obtain⟨Z,h1,K⟩:=V;exact⟨Z,U.trans h1,K⟩
  | node f=>
   rcases V with⟨Z,h1,K⟩ | ⟨O,V⟩
   .exact .inl ⟨Z,U.trans h1,K⟩
   .exact .inr ⟨O,λw f=>let ⟨g',s',w',es,h1,K,Y,ab,ac,ae⟩:=V w (U.fits f);⟨g',s',w',es,h1,K,Y,U.fr ab,λe he=>U.ev (ac e he),λe=>ae (by subst e;exact U.quiet)⟩⟩
def Lv(P:Program)(Q:Gs_):Nat->Goroutine->Prop
 | 0,g=>Q g .quiet
 | n+1,g=>Q g .quiet∨(g.status=.running/\∃g',(∀w,stepG P false g w=.go g' w #[])/\Lv P Q n g')
def Gx(P:Program):Judge P where
 main:=false
 ok Q g s:=s=.quiet->∃n,Lv P Q n g
 stop h e:=⟨0,by subst e;exact h⟩
 step {Q g s} h e:=by
  let⟨g',h1,K⟩:=h.2.2 e;let⟨n,O⟩:=K rfl;exact⟨n+1,.inr ⟨h.1,g',h1,O⟩⟩
 trans {Q R g s} h k e:=by
  let⟨n,O⟩:=h e;have:∀n g,Lv P Q n g->∃m,Lv P R m g:=by
   intro n
   induction n with
   | zero=>intro g h;exact k _ _ h rfl
   | succ n U=>
    intro g h;rcases h with h | ⟨V,g',h1,K⟩
    .exact k _ _ h rfl
    .let⟨m,hm⟩:=U g' K;exact⟨m+1,.inr ⟨V,g',h1,hm⟩⟩
  exact this n g O
 ghost {Q g s s₀} Y h e:=by subst e;exact h Y.quiet
def fr(b:Frame)(T:Av_)(ds:Ld_)(todo:Li_):Frame:={b with tmps:=T,todo:=todo,defers:=ds,mode:=.run}
def Dw(b:Frame)(T:Av_)(ds:Ld_)(todo:Li_):Frame:={b with tmps:=T,todo:=todo,defers:=ds,mode:=.returning}
def Bc(T:Av_):Operand->Value
 | .tmp t=>T.getD t undef
 | .const v=>v
 | .global g=>.pointer (some ⟨g,0,none⟩)
 | .func f=>.func (.func f) #[] #[]
abbrev Env:=List (Nat×Value)
def look:Env->Nat->Option Value
 | [],_=>none
 | (t,v)::L,u=>if t=u then some v else look L u
def ev(L:Env):Operand->Option Value
 | .tmp t=>look L t
 | .const v=>some v
 | .global g=>some (.pointer (some ⟨g,0,none⟩))
 | .func f=>some (.func (.func f) #[] #[])
structure Has (n:Nat) (L:Env) (T:Av_):Prop where
 size:T.size=n
 at_:∀t v,look L t=some v->T.getD t undef=v
variable{T:Av_}
theorem Has.ev{n:Nat}{L:Env}(h:Has n L T){x:Operand}{v:Value}(e:ev L x=some v):Bc T x=v:=by
 cases x with
 | tmp t=>exact h.at_ t v e
 | const u=>cases e;rfl
 | global g=>cases e;rfl
 | func f=>cases e;rfl
def B6(T:Av_):Option Tmp->Value->Av_
 | some d,v=>T.setIfInBounds d v
 | none,_=>T
def Az(L:Env):Option Tmp->Value->Env
 | some d,v=>(d,v)::L
 | none,_=>L
def A5(n:Nat):Option Tmp->Bool
 | some d=>d<n
 | none=>true
theorem TC(T:Av_)(d:Nat)(v:Value)(h:d<T.size)(t:Nat):(T.setIfInBounds d v).getD t undef=if d=t then v else T.getD t undef:=by
 by_cases e:d=t;subst e;simp[kA,h];simp[kA,e]
theorem Has.put{n:Nat}{L:Env}(h:Has n L T){d:Option Tmp}(hd:A5 n d=true)(v:Value):Has n (Az L d v) (B6 T d v):=by
 cases d with
 | none=>exact h
 | some d=>
  have K:d<T.size:=by rw[h.size];simpa [A5] using hd
  refine⟨by simp[B6,h.size],λt u hu=>?_⟩;simp only[B6,TC T d v K];simp only[Az,look] at hu;split at hu;rename_i e;rw[d5 e];exact d0 hu;rename_i e;rw[d7 e];exact h.at_ t u hu
def Sub:Env->Env->Prop
 | [],_=>True
 | (t,v)::L',L=>look L t=some v/\Sub L' L
theorem Sub.look{L:Env}:∀{L':Env},Sub L' L->∀t v,look L' t=some v->Pal.look L t=some v
 | [],_,t,v,e=>by simp[Pal.look] at e
 | (u,w)::L',h,t,v,e=>by
  simp only[Pal.look] at e
  split at e;rename_i K;subst K;cases e;exact h.1;exact Sub.look h.2 t v e
theorem Has.sub{n:Nat}{L L':Env}(h:Has n L T)(s:Sub L' L):Has n L' T:=⟨h.size,λt v e=>h.at_ t v (s.look t v e)⟩
variable {P:Program}
section
variable (J:Judge P)(Q:Gs_)
def JL(b:Frame)(n:Nat)(L:Env)(ds:Ld_)(todo:Li_)(cs:Lf_)(s:St):Prop:=
 ∀T,Has n L T->J.ok Q (G (fr b T ds todo) cs) s
end
variable {J:Judge P}{Q:Gs_}{L L':Env}{ds:Ld_}{k:Li_}{cs:Lf_}{s s':St}
variable{l:Nat}
section
variable {b:Frame}{n:Nat}
theorem Judge.CM{g g':Goroutine}(K:g.status=.running)(h:∀w,stepG P J.main g w=.go g' w)(k:J.ok Q g' s):J.ok Q g s:=
 J.step ⟨K,λw f=>⟨g',s,w,#[],h w,k,f,.refl _ _,by simp⟩,λe=>⟨g',h,e▸k⟩⟩
theorem Ap(h:Sub L' L)(k':JL J Q b n L' ds k cs s):JL J Q b n L ds k cs s:=λT K=>k' T (K.sub h)
theorem JL.ghost(h:BA s s')(k':JL J Q b n L ds k cs s'):JL J Q b n L ds k cs s:=λT K=>J.ghost h (k' T K)
theorem JL.skip(h:JL J Q b n L ds k cs s):JL J Q b n L ds (.code .skip::k) cs s:=λT K=>Judge.CM V (λw=>by simp[G,stepG,stepG.exec,fr]) (h T K)
theorem JL.label(h:JL J Q b n L ds k cs s):JL J Q b n L ds (.code (.label l)::k) cs s:=λT K=>Judge.CM V (λw=>by simp[G,stepG,stepG.exec,fr]) (h T K)
theorem Bv{i:Nat}(h:JL J Q b n L ds k cs s):JL J Q b n L ds (.inBlock i::k) cs s:=λT K=>Judge.CM V (λw=>by simp[G,stepG,stepG.exec,fr]) (h T K)
theorem Nh{c:Code}(h:JL J Q b n L ds k cs s):JL J Q b n L ds (.inScope c::k) cs s:=λT K=>Judge.CM V (λw=>by simp[G,stepG,stepG.exec,fr]) (h T K)
theorem JL.seq{x y:Code}(h:JL J Q b n L ds (.code x:: .code y::k) cs s):JL J Q b n L ds (.code (.seq x y)::k) cs s:=λT K=>Judge.CM V (λw=>by simp[G,stepG,stepG.exec,fr]) (h T K)
theorem JL.block{i:Nat}{c:Code}(h:JL J Q b n L ds (.code c:: .inBlock i::k) cs s):JL J Q b n L ds (.code (.block i c)::k) cs s:=λT K=>Judge.CM V (λw=>by simp[G,stepG,stepG.exec,fr]) (h T K)
theorem JL.scope{c:Code}(h:JL J Q b n L ds (.code c:: .inScope c::k) cs s):JL J Q b n L ds (.code (.scope c)::k) cs s:=λT K=>Judge.CM V (λw=>by simp[G,stepG,stepG.exec,fr]) (h T K)
theorem HV{c:Code}(h:JL J Q b n L ds (.code c:: .inLoop c::k) cs s):JL J Q b n L ds (.code (.loop c)::k) cs s:=λT K=>Judge.CM V (λw=>by simp[G,stepG,stepG.exec,fr]) (h T K)
theorem JL.again{c:Code}(h:JL J Q b n L ds (.code c:: .inLoop c::k) cs s):JL J Q b n L ds (.inLoop c::k) cs s:=λT K=>Judge.CM V (λw=>by simp[G,stepG,stepG.exec,fr]) (h T K)
theorem JL.exit{i:Nat}{k':Li_}(K:exitTo i k=some k')(h:JL J Q b n L ds k' cs s):JL J Q b n L ds (.code (.exit i)::k) cs s:=λT O=>Judge.CM V (λw=>by simp[G,stepG,stepG.exec,fr,K]) (h T O)
theorem Qb(T:Av_)(todo:Li_)(x:Operand):(fr b T ds todo).eval x=Bc T x:=by cases x<;>rfl
theorem PN(T:Av_)(todo:Li_):(fr b T ds todo).eval=Bc T:=funext (Qb T todo)
theorem JL.cond{c:Operand}{x y:Code}{t:Bool}(O:ev L c=some (.bool t))(h:JL J Q b n L ds (.code (if t then x else y)::k) cs s):JL J Q b n L ds (.code (.cond c x y)::k) cs s:=λT K=>
 Judge.CM V (λw=>by
  have h1:=Qb (b:=b) (ds:=ds) T (.code (.cond c x y)::k) c
  rw[K.ev O] at h1
  simp only[fr] at h1
  simp[G,stepG,stepG.exec,fr,h1]) (h T K)
theorem Nq{c:Operand}{x y:Code}(K:ev L c=some (.bool true))(h:JL J Q b n L ds (.code x::k) cs s):JL J Q b n L ds (.code (.cond c x y)::k) cs s:=JL.cond K h
theorem I4{c:Operand}{x y:Code}(K:ev L c=some (.bool false))(h:JL J Q b n L ds (.code y::k) cs s):JL J Q b n L ds (.code (.cond c x y)::k) cs s:=JL.cond K h
theorem CK{c:Operand}{x y:Code}{t:Bool}(K:ev L c=some (.bool t))(h1:t=true->JL J Q b n L ds (.code x::k) cs s)(O:t=false->JL J Q b n L ds (.code y::k) cs s):JL J Q b n L ds (.code (.cond c x y)::k) cs s:=by
 cases t;exact JL.cond K (O V);exact JL.cond K (h1 V)
theorem AU{c:Operand}{x y:Code}{p:Prop} [Decidable p] (K:ev L c=some (.bool (decide p)))(h1:p->JL J Q b n L ds (.code x::k) cs s)(O:¬p->JL J Q b n L ds (.code y::k) cs s):JL J Q b n L ds (.code (.cond c x y)::k) cs s:=
 CK K (λh=>h1 (of_decide_eq_true h)) (λh=>O (of_decide_eq_false h))
theorem JL.loop{c:Code}(I:α->Prop)(O:α->Nat)(U:α->Env)(V:α->St)(Y:α)(Z:I Y)(aa:L=U Y)(ab:s=V Y)
  (round:∀a,I a->(∀K,I K->O K<O a->JL J Q b n (U K) ds (.inLoop c::k) cs (V K))->JL J Q b n (U a) ds (.code c:: .inLoop c::k) cs (V a)):
  JL J Q b n L ds (.code (.loop c)::k) cs s:=by
 refine HV ?_;subst aa ab;have key:∀m a,O a=m->I a->JL J Q b n (U a) ds (.code c:: .inLoop c::k) cs (V a):=by
  intro m
  induction m using Nat.strongRecOn with
  | _ m ac=>intro a hm ae;exact round a ae λK ag ah=>JL.again (ac (O K) (hm▸ah) K rfl ag)
 exact key _ Y rfl Z
theorem JL.region{id:Nat}{ops:Ao_}(h:JL J Q b n L ds (.inRegion ops (List.range ops.size)::k) cs s):JL J Q b n L ds (.code (.region id ops false)::k) cs s:=λT K=>Judge.CM V (λw=>by simp[G,stepG,stepG.exec,fr]) (h T K)
theorem JL.done{ops:Ao_}(h:JL J Q b n L ds k cs s):JL J Q b n L ds (.inRegion ops []::k) cs s:=λT K=>Judge.CM V (λw=>by simp[G,stepG,stepG.exec,fr]) (h T K)
theorem Qp{id:Nat}{ops:Ao_}(K:s.q=false)(hm:P.follows .mixedOrders=true)(h:∀t,JL J Q b n L ds (.inRegion ops (Region.linearise .any ops t)::k) cs s):JL J Q b n L ds (.code (.region id ops true)::k) cs s:=λT O=>by
 refine J.step ⟨rfl,λw f=>⟨_,s,{w with drawn:=w.drawn+1},#[],?_,h (w.tape w.drawn (.order b.fn id)) T O,⟨f.e,f.h,f.d⟩,⟨kG _,λ_ _ _=>rfl,λ_ h=>.inl h,λ_ _ h=>h,λ_ h=>.inl h,rfl,rfl,rfl⟩,by simp⟩,λe=>by subst e;cases K⟩
 simp[G,stepG,stepG.exec,fr,choose,Sem.run,Question.forced,Question.cut,Region.schedule,hm]
theorem F7(T:Av_)(ops:Ao_)(i:Nat)(rest:List Nat)(v:Value)(o:Oper)(K:ops[i]?=some o):
  (fr b T ds (.inRegion ops (i::rest)::k)).finish v=fr b (B6 T o.dst v) ds (.inRegion ops rest::k):=by
 cases hd:o.dst<;>simp[Frame.finish,fr,K,hd,B6]
theorem stepG_op{main:Bool}{ops:Ao_}{i:Nat}{rest:List Nat}{o:Oper}(K:ops[i]?=some o)(hw:Region.wanted o (yielded ops T)=true):
  stepG P main (G (fr b T ds (.inRegion ops (i::rest)::k)) cs) w=
   match b.roundOf,o.op with
   | some l,.defer c=>stepG.apply P true (fr b T ds (.inRegion ops (i::rest)::k)) cs none (do Instr.deferInRound l (← resolve (Bc T) c o.type);pure .skip) w
   | _,_=>stepG.apply P true (fr b T ds (.inRegion ops (i::rest)::k)) cs none (execOp (Bc T) o) w:=by
 have he:=PN (b:=b) (ds:=ds) T (.inRegion ops (i::rest)::k);simp only[fr] at he;simp only[G,stepG,stepG.exec,fr,K,mh,Option.getD_some,hw,lL,stepG.oper,Frame.oper?,he]
 rfl
theorem EA(T:Av_)(todo:Li_):(fr b T ds todo).fn=b.fn:=rfl
theorem Gy(T:Av_)(todo:Li_):(fr b T ds todo).todo=todo:=rfl
def upon(J:Judge P)(Q:Gs_)(b:Frame)(T:Av_)(ds:Ld_)(ops:Ao_)(i:Nat)(rest:List Nat)(k:Li_)(cs:Lf_)(dst:Option Tmp):Next->St->Prop
 | .value v,s=>J.ok Q (G (fr b (B6 T dst v) ds (.inRegion ops rest::k)) cs) s
 | .skip,s=>J.ok Q (G (fr b (B6 T dst undef) ds (.inRegion ops rest::k)) cs) s
 | .defer d,s=>J.ok Q (G (fr b (B6 T dst undef) (d::ds) (.inRegion ops rest::k)) cs) s
 | .enter f args,s=>J.ok Q (G (Frame.enter P f args .normal) (fr b T ds (.inRegion ops (i::rest)::k)::cs)) s
 | .round l f tmps assign body,s=>J.ok Q (G (Frame.round l f tmps assign body .normal) (fr b T ds (.inRegion ops (i::rest)::k)::cs)) s
 | _,_=>False
def MK(J:Judge P)(Q:Gs_)(b:Frame)(T:Av_)(ds:Ld_)(ops:Ao_)(i:Nat)(rest:List Nat)(k:Li_)(cs:Lf_):Halt->St->Prop
 | .panic v,s=>J.ok Q (G ((fr b T ds (.inRegion ops (i::rest)::k)).raise [{v,recovered:=false}]) cs) s
 | _,_=>False
theorem NN{s:St}{fn:FuncId}(h:∀e∈es,Ev s w w' e):∀e∈seen P fn es,Ev s w w' e:=λe he=>h e (mem_seen he)
theorem Judge.oper{ops:Ao_}{i:Nat}{rest:List Nat}{o:Oper}(aa:ops[i]?=some o)(hw:Region.wanted o (yielded ops T)=true)(ah:b.kind≠ .early)
  (hd:b.roundOf=none∨∀c,o.op≠ .defer c)
  (h:lp P (execOp (Bc T) o) s (upon J Q b T ds ops i rest k cs o.dst) (MK J Q b T ds ops i rest k cs)):
  J.ok Q (G (fr b T ds (.inRegion ops (i::rest)::k)) cs) s:=by
 have U:((fr b T ds (.inRegion ops (i::rest)::k)).kind==CallKind.early)=false:=by simpa [fr] using ah
 have ae:∀w,stepG P J.main (G (fr b T ds (.inRegion ops (i::rest)::k)) cs) w=stepG.apply P true (fr b T ds (.inRegion ops (i::rest)::k)) cs none (execOp (Bc T) o) w:=by
  intro w;rw[stepG_op aa hw];split;rename_i l c ag e2;rcases hd with hd | hd;rw[hd] at ag;cases ag;exact absurd e2 (hd c);rfl
 refine J.step ⟨rfl,λw f=>?_,λe=>?_⟩
 rotate_left
 .subst e;simp only[ae];have ab:=λv=>F7 (b:=b) (ds:=ds) (k:=k) T ops i rest v o aa;obtain⟨es,he,V,h⟩:=NF _ h;have Z:seen P b.fn es=#[]:=OH V;rcases h with⟨nx,K,O⟩ | ⟨x,K,O⟩
  .cases nx with
   | value v=>exact⟨_,λw=>by simp[stepG.apply,O,U,GStep.after,G,ab,EA,he,Z],K⟩
   | skip=>exact⟨_,λw=>by simp[stepG.apply,O,U,GStep.after,G,ab,EA,he,Z],K⟩
   | enter g args=>exact⟨_,λw=>by simp[stepG.apply,O,U,GStep.after,G,EA,Gy,he,Z],K⟩
   | round l g tm as ai=>exact⟨_,λw=>by simp[stepG.apply,O,U,GStep.after,G,EA,Gy,he,Z],K⟩
   | defer d=>
    have ac:=F7 (b:=b) (ds:=d::ds) (k:=k) T ops i rest undef o aa;exact⟨_,λw=>by rw[← ac];simp[stepG.apply,O,U,GStep.after,G,EA,Gy,he,Z];rfl,K⟩
   | _=>exact K.elim
  .cases x with
   | panic v=>exact⟨_,λw=>by simp[stepG.apply,O,U,GStep.after,G,EA,Gy,he,Z],K⟩
   | _=>exact K.elim
 let⟨s',h1,Y,aj,K⟩:=LJ _ h f;rw[ae];have V:=NN (P:=P) (fn:=b.fn) aj;have ab:=λv=>F7 (b:=b) (ds:=ds) (k:=k) T ops i rest v o aa;cases O:(execOp (Bc T) o).run P w with
 | ok nx w'=>
  rw[O] at h1 Y K V;simp only[IL] at h1 Y V;cases nx with
  | value v=>exact⟨_,s',w',seen P b.fn ((execOp (Bc T) o).events P w #[])++ #[],by simp[stepG.apply,O,U,GStep.after,G,ab,EA],K,h1,Y,by simpa using V⟩
  | skip=>exact⟨_,s',w',seen P b.fn ((execOp (Bc T) o).events P w #[])++ #[],by simp[stepG.apply,O,U,GStep.after,G,ab,EA],K,h1,Y,by simpa using V⟩
  | enter g args=>exact⟨_,s',w',seen P b.fn ((execOp (Bc T) o).events P w #[])++ #[],by simp[stepG.apply,O,U,GStep.after,G,EA,Gy],K,h1,Y,by simpa using V⟩
  | round l g tm as ai=>exact⟨_,s',w',seen P b.fn ((execOp (Bc T) o).events P w #[])++ #[],by simp[stepG.apply,O,U,GStep.after,G,EA,Gy],K,h1,Y,by simpa using V⟩
  | defer d=>
   have ac:=F7 (b:=b) (ds:=d::ds) (k:=k) T ops i rest undef o aa;exact⟨_,s',w',seen P b.fn ((execOp (Bc T) o).events P w #[])++ #[],by
    rw[← ac];simp[stepG.apply,O,U,GStep.after,G,EA,Gy];rfl,K,h1,Y,by simpa using V⟩
  | _=>exact K.elim
 | halt x w'=>
  rw[O] at h1 Y K V;simp only[IL] at h1 Y V;cases x with
  | panic v=>exact⟨_,s',w',seen P b.fn ((execOp (Bc T) o).events P w #[])++ #[],by simp[stepG.apply,O,U,GStep.after,G,EA,Gy],K,h1,Y,by simpa using V⟩
  | _=>exact K.elim
theorem Judge.unwanted{ops:Ao_}{i:Nat}{rest:List Nat}{o:Oper}(K:ops[i]?=some o)(hw:Region.wanted o (yielded ops T)=false)
  (h:J.ok Q (G (fr b (B6 T o.dst undef) ds (.inRegion ops rest::k)) cs) s):J.ok Q (G (fr b T ds (.inRegion ops (i::rest)::k)) cs) s:=by
 refine Judge.CM V (λw=>?_) h;have O:=F7 (b:=b) (ds:=ds) (k:=k) T ops i rest undef o K;rw[← O];simp[G,stepG,stepG.exec,fr,K,hw]
end
def Yl(P:Program)(o:Oper)(ρ:Operand->Value)(s:St)(v:Value):Prop:=lp P (execOp ρ o) s (λnx s'=>nx=.value v/\s'=s) (λ_ _=>False)
def Eg(L:Env)(ρ:Operand->Value):Prop:=∀x v,ev L x=some v->ρ x=v
def AO(L:Env)(ops:Ao_)(o:Oper):Option Bool:=
 match o.guard with
 | none=>some true
 | some (j,K)=>match(ops[j]?).bind (·.dst) with
  | some d=>match look L d with
   | some (.bool b)=>some (b==K)
   | some (.tuple _)=>some false
   | _=>none
  | none=>none
section
variable {b:Frame}{n:Nat}
theorem Has.Gi(h:Has n L T):Eg L (Bc T):=λ_ _ e=>h.ev e
theorem getD_some{d:Nat}{c:Bool}(h:T.getD d undef=.bool c):T[d]?=some (.bool c):=by
 rw[kA] at h;cases K:T[d]? with
 | none=>rw[K] at h;simp[undef] at h
 | some v=>rw[K] at h;simp at h;rw[h]
theorem BF{ops:Ao_}{o:Oper}{c:Bool}(h:Has n L T)(hw:AO L ops o=some c):Region.wanted o (yielded ops T)=c:=by
 unfold AO at hw;unfold Region.wanted;cases K:o.guard with
 | none=>rw[K] at hw;simpa using hw
 | some p=>
  obtain⟨j,V⟩:=p;rw[K] at hw;simp only at hw ⊢;cases hd:(ops[j]?).bind (·.dst) with
  | none=>rw[hd] at hw;simp at hw
  | some d=>
   rw[hd] at hw;simp only at hw;cases O:look L d with
   | none=>rw[O] at hw;simp at hw
   | some v=>
    rw[O] at hw;cases v with
    | bool x=>
     simp only[lr] at hw;have:=getD_some (h.at_ d _ O);simp only[yielded,hd,Option.bind_some,this];simp[← hw]
    | tuple c=>
     simp only[lr] at hw;have K:=h.at_ d _ O;simp only[yielded,hd,Option.bind_some];cases U:T[d]? with
     | none=>simp[← hw]
     | some u=>
      have:u=.tuple c:=by rw[kA,U] at K;exact K
      subst this;simp[← hw]
    | _=>simp at hw
def CX:Op->Bool | .defer _=>true | _=>false
def Bt(b:Frame)(n:Nat)(o:Oper):Bool:=(b.kind != .early)&&(A5 n o.dst&& !CX o.op)
theorem Yl.out{P:Program}{o:Oper}{ρ:Operand->Value}{s:St}{v:Value}(h:Yl P o ρ s v):Pal.lp P (execOp ρ o) s (λnx s'=>nx=.value v/\s'=s) (λ_ _=>False):=by unfold Yl at h;exact h
theorem Ac{ops:Ao_}{i:Nat}{rest:List Nat}{o:Oper}{v:Value}(U:ops[i]?=some o)(hw:AO L ops o=some true)(K:Bt b n o=true)
  (h:∀ρ,Eg L ρ->Yl P o ρ s v) (V:JL J Q b n (Az L o.dst v) ds (.inRegion ops rest::k) cs s):
  JL J Q b n L ds (.inRegion ops (i::rest)::k) cs s:=λT O=>by
 simp only[Bt,f5] at K
 obtain⟨K,Y,hd⟩:=K
 refine Judge.oper U (BF O hw) (by simpa using K) (.inr λc Z=>by rw[Z] at hd;simp[CX] at hd) (CL _ (h _ O.Gi).out ?_ ?_)
 .rintro nx s' ⟨rfl,rfl⟩
  exact V _ (O.put Y v)
 .intro _ _ aa;exact aa.elim
theorem AP{ops:Ao_}{i:Nat}{rest:List Nat}{o:Oper}(O:ops[i]?=some o)(hw:AO L ops o=some false)(U:A5 n o.dst=true)
  (V:JL J Q b n (Az L o.dst undef) ds (.inRegion ops rest::k) cs s):
  JL J Q b n L ds (.inRegion ops (i::rest)::k) cs s:=λ_ K=>
 Judge.unwanted O (BF K hw) (V _ (K.put U undef))
theorem JL.op{ops:Ao_}{i:Nat}{rest:List Nat}{o:Oper}(Y:ops[i]?=some o)(hw:AO L ops o=some true)(K:Bt b n o=true)
  (h:∀ρ,Eg L ρ->lp P (execOp ρ o) s (λnx s'=>match nx with
   | .value v=>JL J Q b n (Az L o.dst v) ds (.inRegion ops rest::k) cs s'
   | .skip=>JL J Q b n (Az L o.dst undef) ds (.inRegion ops rest::k) cs s'
   | _=>False) (λ_ _=>False)):
  JL J Q b n L ds (.inRegion ops (i::rest)::k) cs s:=λT O=>by
 simp only[Bt,f5] at K
 obtain⟨K,V,hd⟩:=K
 refine Judge.oper Y (BF O hw) (by simpa using K) (.inr λc Z=>by rw[Z] at hd;simp[CX] at hd) (CL _ (h _ O.Gi) ?_ ?_)
 .intro nx s' U
  cases nx with
  | value v=>exact U _ (O.put V v)
  | skip=>exact U _ (O.put V undef)
  | _=>exact U.elim
 .intro _ _ aa;exact aa.elim
end
variable {ρ:Operand->Value}{y z:Operand}{d:Option Tmp}{t u ty:TypeId}{p:String}{af:Ae_}{g:On_}{kd kd':IntKind}{m m':Int}
variable{ats:Array TypeId}
section
variable {x:Operand}{v:Value}
theorem Yl.move(K:ρ x=v):Yl P ⟨d,.move x,ty,p,af,g⟩ ρ s v:=by simp[Yl,execOp,lp,pure,K]
theorem Yl.assign(K:ρ x=v):Yl P ⟨d,.assign x,ty,p,af,g⟩ ρ s v:=by simp[Yl,execOp,lp,pure,K]
theorem Ci(K:ρ z=.bool true)(O:ρ x=v):Yl P ⟨d,.pick z x y,ty,p,af,g⟩ ρ s v:=by simp[Yl,execOp,lp,pure,bind,Sem.bind,asBool,K,O]
theorem CF(K:ρ z=.bool false)(O:ρ y=v):Yl P ⟨d,.pick z x y,ty,p,af,g⟩ ρ s v:=by simp[Yl,execOp,lp,pure,bind,Sem.bind,asBool,K,O]
theorem Yl.lss(K:ρ x=.int kd m)(O:ρ y=.int kd m'):Yl P ⟨d,.binOp .lss t x y u,ty,p,af,g⟩ ρ s (.bool (decide (m<m'))):=by
 simp[Yl,execOp,lp,pure,bind,Sem.bind,K,O,eqGuard,Go.binOp,Op.intCmp]
theorem Yl.leq(K:ρ x=.int kd m)(O:ρ y=.int kd m'):Yl P ⟨d,.binOp .leq t x y u,ty,p,af,g⟩ ρ s (.bool (decide (m<=m'))):=by
 simp[Yl,execOp,lp,pure,bind,Sem.bind,K,O,eqGuard,Go.binOp,Op.intCmp]
theorem Yl.gtr(K:ρ x=.int kd m)(O:ρ y=.int kd m'):Yl P ⟨d,.binOp .gtr t x y u,ty,p,af,g⟩ ρ s (.bool (decide (m'<m))):=by
 simp[Yl,execOp,lp,pure,bind,Sem.bind,K,O,eqGuard,Go.binOp,Op.intCmp]
theorem Yl.geq(K:ρ x=.int kd m)(O:ρ y=.int kd m'):Yl P ⟨d,.binOp .geq t x y u,ty,p,af,g⟩ ρ s (.bool (decide (m'<=m))):=by
 simp[Yl,execOp,lp,pure,bind,Sem.bind,K,O,eqGuard,Go.binOp,Op.intCmp]
theorem Yl.eql(K:ρ x=.int kd m)(O:ρ y=.int kd m'):Yl P ⟨d,.binOp .eql t x y u,ty,p,af,g⟩ ρ s (.bool (decide (m=m'))):=by
 simp[Yl,execOp,lp,pure,bind,Sem.bind,K,O,eqGuard,Go.binOp,Op.intCmp];rfl
theorem Yl.neq(K:ρ x=.int kd m)(O:ρ y=.int kd m'):Yl P ⟨d,.binOp .neq t x y u,ty,p,af,g⟩ ρ s (.bool (!decide (m=m'))):=by
 simp[Yl,execOp,lp,pure,bind,Sem.bind,K,O,eqGuard,Go.binOp,Op.intCmp];rfl
theorem Yl.add(K:ρ x=.int kd m)(O:ρ y=.int kd m'):Yl P ⟨d,.binOp .add t x y u,ty,p,af,g⟩ ρ s (.int kd (kd.wrap (m+m'))):=by
 simp[Yl,execOp,lp,pure,bind,Sem.bind,K,O,eqGuard,Go.binOp,Op.intArith]
theorem Yl.sub(K:ρ x=.int kd m)(O:ρ y=.int kd m'):Yl P ⟨d,.binOp .sub t x y u,ty,p,af,g⟩ ρ s (.int kd (kd.wrap (m - m'))):=by
 simp[Yl,execOp,lp,pure,bind,Sem.bind,K,O,eqGuard,Go.binOp,Op.intArith]
theorem Yl.mul(K:ρ x=.int kd m)(O:ρ y=.int kd m'):Yl P ⟨d,.binOp .mul t x y u,ty,p,af,g⟩ ρ s (.int kd (kd.wrap (m*m'))):=by
 simp[Yl,execOp,lp,pure,bind,Sem.bind,K,O,eqGuard,Go.binOp,Op.intArith]
theorem Lz{a:Int}(h: -9223372036854775808<=a/\a<=9223372036854775807):IntKind.i64.wrap a=a:=by
 simp only[IntKind.wrap,IntKind.bits,IntKind.signed];simp;split<;>omega
theorem UB(K:ρ x=.int .i64 m)(O:ρ y=.int .i64 m')(hb: -9223372036854775808<=m+m'/\m+m'<=9223372036854775807):Yl P ⟨d,.binOp .add t x y u,ty,p,af,g⟩ ρ s (.int .i64 (m+m')):=by
 have:=Yl.add (P:=P) (s:=s) (d:=d) (t:=t) (u:=u) (ty:=ty) (p:=p) (af:=af) (g:=g) K O;rwa[Lz hb] at this
theorem UD(K:ρ x=.int .i64 m)(O:ρ y=.int .i64 m')(hb: -9223372036854775808<=m - m'/\m - m'<=9223372036854775807):Yl P ⟨d,.binOp .sub t x y u,ty,p,af,g⟩ ρ s (.int .i64 (m - m')):=by
 have:=Yl.sub (P:=P) (s:=s) (d:=d) (t:=t) (u:=u) (ty:=ty) (p:=p) (af:=af) (g:=g) K O;rwa[Lz hb] at this
theorem Yl.rem(K:ρ x=.int kd m)(O:ρ y=.int kd m')(h0:m'≠0):Yl P ⟨d,.binOp .rem t x y u,ty,p,af,g⟩ ρ s (.int kd (m.tmod m')):=by
 simp[Yl,execOp,lp,pure,bind,Sem.bind,K,O,eqGuard,Go.binOp,Op.intDiv,h0]
theorem Yl.and(K:ρ x=.int kd m)(O:ρ y=.int kd m'):Yl P ⟨d,.binOp .and t x y u,ty,p,af,g⟩ ρ s (.int kd (kd.wrap (BitVec.ofInt kd.bits m&&& BitVec.ofInt kd.bits m').toNat)):=by
 simp[Yl,execOp,lp,pure,bind,Sem.bind,K,O,eqGuard,Go.binOp,Op.intBits]
theorem Yl.or(K:ρ x=.int kd m)(O:ρ y=.int kd m'):Yl P ⟨d,.binOp .or t x y u,ty,p,af,g⟩ ρ s (.int kd (kd.wrap (BitVec.ofInt kd.bits m|||BitVec.ofInt kd.bits m').toNat)):=by
 simp[Yl,execOp,lp,pure,bind,Sem.bind,K,O,eqGuard,Go.binOp,Op.intBits]
theorem Yl.xor(K:ρ x=.int kd m)(O:ρ y=.int kd m'):Yl P ⟨d,.binOp .xor t x y u,ty,p,af,g⟩ ρ s (.int kd (kd.wrap (BitVec.ofInt kd.bits m ^^^ BitVec.ofInt kd.bits m').toNat)):=by
 simp[Yl,execOp,lp,pure,bind,Sem.bind,K,O,eqGuard,Go.binOp,Op.intBits]
theorem Yl.shl(K:ρ x=.int kd m)(O:ρ y=.int kd' m')(h0:0<=m'):Yl P ⟨d,.binOp .shl t x y u,ty,p,af,g⟩ ρ s (.int kd (kd.wrap (m*2^(min m'.toNat kd.bits)))):=by
 have:¬m'<0:=by omega
 simp[Yl,execOp,lp,pure,bind,Sem.bind,K,O,eqGuard,Go.binOp,Op.shift,this]
theorem Yl.shr(K:ρ x=.int kd m)(O:ρ y=.int kd' m')(h0:0<=m'):Yl P ⟨d,.binOp .shr t x y u,ty,p,af,g⟩ ρ s (.int kd (m.fdiv (2^(min m'.toNat kd.bits)))):=by
 have:¬m'<0:=by omega
 simp[Yl,execOp,lp,pure,bind,Sem.bind,K,O,eqGuard,Go.binOp,Op.shift,this]
theorem Yl.not{c:Bool}(K:ρ x=.bool c):Yl P ⟨d,.unOp .not t x,ty,p,af,g⟩ ρ s (.bool (!c)):=by
 simp[Yl,execOp,lp,pure,bind,Sem.bind,K,Op.unary]
theorem Du(K:P.underlying t=some (.int kd'))(hu:P.underlying u=some (.int kd))(O:ρ x=.int kd' m):Yl P ⟨d,.convert t u x,ty,p,af,g⟩ ρ s (.int kd (kd.wrap m)):=by
 simp[Yl,execOp,lp,pure,bind,Sem.bind,O,Go.convert,underlying,program,K,hu,Conv.intToInt]
theorem Yl.extract{vs:Av_}{i:Nat}(K:ρ x=.tuple vs)(hi:vs[i]?=some v):Yl P ⟨d,.extract x i,ty,p,af,g⟩ ρ s v:=by
 simp[Yl,execOp,lp,pure,bind,Sem.bind,K,Instr.extract,hi]
theorem Yl.nilCheck{a:Addr}(K:ρ x=.pointer (some a)):Yl P ⟨d,.nilCheck x,ty,p,af,g⟩ ρ s (.pointer (some a)):=by
 simp[Yl,execOp,lp,pure,K]
theorem Yl.len{a:Option Addr}{e:TypeId}{c:Nat}(K:ats[0]?=some t)(O:P.underlying t=some (.slice e))(U:ρ x=.slice a l c):
  Yl P ⟨d,.call ⟨.builtin .len,#[x],ats⟩,ty,p,af,g⟩ ρ s (.int .i64 l):=by
 simp[Yl,execOp,lp,pure,bind,Sem.bind,U,resolve,invoke,builtin,Builtin.len_,K,underlying,program,O,goInt]
theorem Gu{dsc:TypeDesc}(K:P.underlying t=some dsc)(O:∀ms,dsc≠ .interface ms)(U:ρ x=v):Yl P ⟨d,.makeInterface t x,ty,p,af,g⟩ ρ s (.iface t v):=by
 have:lp P (Instr.makeInterface t v) s (λr s'=>r=.iface t v/\s'=s) (λ_ _=>False):=by
  unfold Instr.makeInterface;simp only[lp,bind,Sem.bind,underlying,program,K];cases dsc<;>first | exact⟨rfl,rfl⟩ | exact absurd rfl (O _)
 simp only[Yl,execOp,U];exact AG _ _ (CL _ this (λr s' ⟨h1,V⟩=>⟨by rw[h1],V⟩) (λ_ _ h=>h))
theorem Lx{fn:Fn}{a c:Array Operand}{va K:Av_}(O:a.map ρ=va)(U:c.map ρ=K):Yl P ⟨d,.makeFunc fn a c,ty,p,af,g⟩ ρ s (.func fn va K):=by
 simp[Yl,execOp,lp,pure,bind,Sem.bind,Instr.makeFunc,O,U]
end
attribute [irreducible] Yl
def Le(E E':LH):Prop:=∀b o,E b=some o->E' b=some o
theorem Le.refl(E:LH):Le E E:=λ_ _ h=>h
theorem Le.trans{E E' K:LH}(h:Le E E')(k:Le E' K):Le E K:=λb o x=>k b o (h b o x)
theorem JV{E:LH}:Le E E:=Le.refl E
theorem Le.Q4{a b c:LH}(h:Le a b)(k:Le b c):Le a c:=h.trans k
def AS:List (Nat×Obj)->LH->LH
 | [],H=>H
 | (b,o)::B,H=>λx=>if x=b then some o else AS B H x
def mk(E H:LH)(B:List (Nat×Obj)):St:=⟨E,AS B H,false⟩
def Nd(E H:LH):List (Nat×Obj)->Prop
 | []=>True
 | (b,_)::B=>E b=none/\H b=none/\(∀p∈B,p.1≠b)/\Nd E H B
theorem O8{H:LH}{b:Nat}:∀{B:List (Nat×Obj)},H b=none->(∀p∈B,p.1≠b)->AS B H b=none
 | [],h,_=>h
 | (c,o)::B,h,hb=>by
  have K:b≠c:=λe=>hb (c,o) (by simp) e.symm
  simp only[AS,d7 K]
  exact O8 h λp O=>hb p (kO _ O)
theorem GX{H:LH}{b:Nat}:∀{B:List (Nat×Obj)},AS B H b=none->H b=none/\∀p∈B,p.1≠b
 | [],h=>⟨h,by simp⟩
 | (c,o)::B,h=>by
  simp only[AS] at h
  split at h;cases h;rename_i O;let⟨h1,U⟩:=GX h;refine⟨h1,λp K=>?_⟩;rcases f7.1 K with rfl | K;exact λe=>O e.symm;exact U p K
theorem OI{H:LH}{x:Nat}{o:Obj}{r:Nat}:∀{B:List (Nat×Obj)},(∀p∈B,p.1≠r)->AS (B++ [(r,o)]) H x=if x=r then some o else AS B H x
 | [],_=>rfl
 | (c,u)::B,h=>by
  simp only[lj,AS]
  by_cases e:x=c
  .subst e
   have:x≠r:=λe=>h (x,u) (by simp) e;simp[this]
  .simp only [d7 e];exact OI λp K=>h p (kO _ K)
theorem Nd.append{E H:LH}{r:Nat}{o:Obj}(O:E r=none)(U:H r=none):∀{B:List (Nat×Obj)},(∀p∈B,p.1≠r)->Nd E H B->Nd E H (B++ [(r,o)])
 | [],_,_=>⟨O,U,by simp,trivial⟩
 | (c,u)::B,h,V=>by
  obtain⟨h1,Y,Z,aa⟩:=V
  refine⟨h1,Y,λp K=>?_,Nd.append O U (λp K=>h p (kO _ K)) aa⟩
  rcases kM.1 K with K | K;exact Z p K;simp at K;subst K;exact λe=>h (c,u) (by simp) e.symm
theorem Ho{E H:LH}{b:Nat}{o:Obj}:∀{B:List (Nat×Obj)}{i:Nat},Nd E H B->B[i]?=some (b,o)->AS B H b=some o
 | [],_,_,h=>by simp at h
 | (c,u)::B,0,_,h=>by simp at h;obtain⟨rfl,rfl⟩:=h;simp[AS]
 | (c,u)::B,i+1,K,h=>by
  simp at h
  have O:b≠c:=K.2.2.1 (b,o) (kL h)
  simp only[AS,d7 O]
  exact Ho K.2.2.2 h
theorem Po{E H:LH}{b:Nat}{o o':Obj}:∀{B:List (Nat×Obj)}{i:Nat},Nd E H B->B[i]?=some (b,o)->AS (B.set i (b,o')) H=λx=>if x=b then some o' else AS B H x
 | [],_,_,h=>by simp at h
 | (c,u)::B,0,_,h=>by
  simp at h;obtain⟨rfl,rfl⟩:=h
  funext x
  simp only[mB,AS]
  split<;>rfl
 | (c,u)::B,i+1,K,h=>by
  simp at h
  have O:b≠c:=K.2.2.1 (b,o) (kL h)
  funext x
  simp only[mC,AS]
  rw[Po K.2.2.2 h]
  by_cases e:x=c;subst e;simp[kU O];simp[e]
variable{o':Obj}
theorem Nd.set{E H:LH}{b:Nat}:∀{B:List (Nat×Obj)}{i:Nat},Nd E H B->B[i]?=some (b,o)->Nd E H (B.set i (b,o'))
 | [],_,_,h=>by simp at h
 | (c,u)::B,0,K,h=>by simp at h;obtain⟨rfl,rfl⟩:=h;exact K
 | (c,u)::B,i+1,K,h=>by
  simp at h
  refine⟨K.1,K.2.1,λp O=>?_,K.2.2.2.set h⟩
  have hm:=lX O
  rcases hm with hm | rfl;exact K.2.2.1 p hm;exact K.2.2.1 (b,o) (kL h)
theorem Nd.P9{E H:LH}{b:Nat}{o:Obj}:∀{B:List (Nat×Obj)}{i:Nat},Nd E H B->B[i]?=some (b,o)->E b=none
 | [],_,_,h=>by simp at h
 | (c,u)::B,0,K,h=>by simp at h;obtain⟨rfl,rfl⟩:=h;exact K.1
 | (c,u)::B,i+1,K,h=>by simp at h;exact Nd.P9 K.2.2.2 h
theorem Nn{E H:LH}{B:List (Nat×Obj)}{i b:Nat}(K:Nd E H B)(h:B[i]?=some (b,o)):(mk E H B).get b=some o:=by
 unfold St.get mk;simp only[K.P9 h,Ho K h]
theorem RB{E H:LH}{B:List (Nat×Obj)}{b:Nat}(h:E b=some o):(mk E H B).get b=some o:=by
 unfold St.get mk;simp only[h]
variable{off:Nat}
theorem PZ{E H:LH}{B:List (Nat×Obj)}{i b:Nat}{c:Av_}{e:TypeId}{f:Nat×Nat}{v:Value}(K:Nd E H B)(h:B[i]?=some (b,.cells c e f))(O:c[off]?=some v):(mk E H B).cell? ⟨b,off,none⟩=some v:=by
 unfold St.cell?;rw[Nn K h];exact O
theorem SQ{E H:LH}{B:List (Nat×Obj)}{b:Nat}{c:Av_}{e:TypeId}{f:Nat×Nat}{v:Value}(h:E b=some (.cells c e f))(K:c[off]?=some v):(mk E H B).cell? ⟨b,off,none⟩=some v:=by
 unfold St.cell?;rw[RB h];exact K
variable {E H:LH}{B B':List (Nat×Obj)}
variable{r:Nat}{args:Av_}{X:Halt->St->Prop}{todo:Li_}{fn:Func}{vs:Lv_}
section
variable {b:Frame}{n:Nat}
theorem IB(h1:(mk E H B).E r=none)(O:(mk E H B).H r=none)(o:Obj)(U:Nd E H B):Nd E H (B++ [(r,o)])/\(mk E H B).upd r o=mk E H (B++ [(r,o)]):=by
 obtain⟨V,K⟩:=GX O;refine⟨Nd.append h1 V K U,?_⟩;unfold St.upd mk;congr 1;funext x;exact(OI K).symm
theorem VN{i id:Nat}(K:Nd E H B)(h:B[i]?=some (id,o)):(mk E H B).upd id o'=mk E H (B.set i (id,o')):=by
 unfold St.upd mk;congr 1;exact(Po K h).symm
theorem JL.drop(B':List (Nat×Obj))(h:∀p∈B',∃i:Nat,B[i]?=some p)(U:Nd E H B)(k':JL J Q b n L ds k cs (mk E H B')):JL J Q b n L ds k cs (mk E H B):=
 JL.ghost (s':=mk E H B') ⟨λ_ _ h=>h,λx o O=>by
  show AS B H x=some o
  have key:∀{B':List (Nat×Obj)},(∀p∈B',∃i:Nat,B[i]?=some p)->AS B' H x=some o->AS B H x=some o:=by
   intro B'
   induction B' with
   | nil=>
    intro _ O
    have aa:∀p∈B,p.1≠x:=by
     intro p K e
     have:∀{B:List (Nat×Obj)},Nd E H B->p∈B->H p.1=none:=by
      intro B U K
      induction B with
      | nil=>simp at K
      | cons q B V=>
       rcases f7.1 K with rfl | K;exact U.2.1;exact V U.2.2.2 K
     have h0:=this U K
     rw[e] at h0
     have Z:H x=some o:=O
     rw[h0] at Z;cases Z
    have:∀{B:List (Nat×Obj)},(∀p∈B,p.1≠x)->AS B H x=H x:=by
     intro B Y
     induction B with
     | nil=>rfl
     | cons q B V=>
      have ab:x≠q.1:=λe=>Y q (by simp) e.symm
      obtain⟨c,u⟩:=q
      simp only[AS,d7 ab]
      exact V λp K=>Y p (kO _ K)
    rw[this aa];exact O
   | cons q B' V=>
    intro Y O
    obtain⟨c,u⟩:=q
    simp only[AS] at O
    split at O
    .rename_i e;subst e;cases O
     obtain⟨i,hi⟩:=Y (x,o) (by simp)
     exact Ho U hi
    .exact V (λp K=>Y p (kO _ K)) O
  exact key h O,λ_ _ h=>.inl h,rfl⟩ k'
theorem Kb{x:Nat}:∀{B:List (Nat×Obj)}{i bk:Nat}{o u:Obj},Nd E H B->B[i]?=some (bk,o)->AS (B.eraseIdx i) H x=some u->x≠bk/\AS B H x=some u
 | [],_,_,_,_,_,h,_=>by simp at h
 | (c,v)::B,0,bk,o,u,O,h,K=>by
  simp at h;obtain⟨rfl,rfl⟩:=h
  simp only[List.eraseIdx_cons_zero] at K
  have U:x≠c:=by
   intro e;subst e;rw[O8 O.2.1 O.2.2.1] at K;cases K
  exact⟨U,by simp only[AS,d7 U];exact K⟩
 | (c,v)::B,i+1,bk,o,u,O,h,K=>by
  simp at h;simp only[List.eraseIdx_cons_succ,AS] at K ⊢;split at K;rename_i e;subst e;rw[d5 rfl];exact⟨λe=>O.2.2.1 (bk,o) (kL h) e.symm,K⟩;rename_i e;rw[d7 e];exact Kb O.2.2.2 h K
theorem JL.freeze(i:Nat){id:Nat}(K:Nd E H B)(h:B[i]?=some (id,o))
  (k':∀E',Le E E'->E' id=some o->Nd E' H (B.eraseIdx i)->JL J Q b n L ds k cs (mk E' H (B.eraseIdx i))):JL J Q b n L ds k cs (mk E H B):=by
 have ac:=kL h;have ae:E id=none/\H id=none:=by
  have:∀{B:List (Nat×Obj)},Nd E H B->(id,o)∈B->E id=none/\H id=none:=by
   intro B K O
   induction B with
   | nil=>simp at O
   | cons q B V=>
    rcases f7.1 O with rfl | O;exact⟨K.1,K.2.1⟩;exact V K.2.2.2 O
  exact this K ac
 let E':LH:=λx=>if x=id then some o else E x
 have Z:E' id=some o:=by simp[E']
 have hle:Le E E':=λx u U=>by
  have:x≠id:=λe=>by subst e;rw[ae.1] at U;cases U
  simp[E',this,U]
 have ag:Nd E' H (B.eraseIdx i):=by
  have:∀{B:List (Nat×Obj)}{i:Nat},Nd E H B->B[i]?=some (id,o)->Nd E' H (B.eraseIdx i)/\∀p∈B.eraseIdx i,p.1≠id:=by
   intro B
   induction B with
   | nil=>intro i _ h;simp at h
   | cons q B V=>
    obtain⟨c,v⟩:=q;intro i K h;have up:∀{B:List (Nat×Obj)},Nd E H B->(∀p∈B,p.1≠id)->Nd E' H B:=by
     intro B K aa
     induction B with
     | nil=>trivial
     | cons q B ah=>exact⟨by simpa [E',aa q (by simp)] using K.1,K.2.1,K.2.2.1,ah K.2.2.2 λp O=>aa p (kO _ O)⟩
    cases i with
    | zero=>
     simp at h;obtain⟨rfl,rfl⟩:=h;exact⟨up K.2.2.2 K.2.2.1,K.2.2.1⟩
    | succ i=>
     simp at h;let⟨h1,Y⟩:=V K.2.2.2 h;have ab:c≠id:=λe=>K.2.2.1 (id,o) (kL h) e.symm;refine⟨⟨by simpa [E',ab] using K.1,K.2.1,λp O=>K.2.2.1 p (m2 O),h1⟩,λp O=>?_⟩;rcases f7.1 O with rfl | O;exact ab;exact Y p O
  exact(this K h).1
 refine JL.ghost (s':=mk E' H (B.eraseIdx i)) ⟨λx u U=>hle x u U,λx u U=>(Kb K h U).2,λx u U=>?_,rfl⟩ (k' E' hle Z ag);by_cases e:x=id
 .subst e;right;have:u=o:=by have:E' x=some u:=U;rw[Z] at this;exact(d0 this).symm
  subst this;refine⟨Ho K h,?_⟩;cases ai:(mk E' H (B.eraseIdx i)).H x with
  | none=>rfl
  | some y=>exact absurd rfl (Kb K h ai).1
 .left;have h1:E' x=some u:=U;have Y:E' x=E x:=by simp[E',e]
  show E x=some u;rw[← Y];exact h1
def Fn(P:Program)(f:FuncId)(args:Av_)(s:St)(R:Value->St->Prop):Prop:=
 ∀(J:Judge P) (Q:Gs_) (c:Frame) (cs:Lf_),(∀v s',R v s'->J.ok Q (G (c.finish v) cs) s')->J.ok Q (G (Frame.enter P f args .normal) (c::cs)) s
def Dd(P:Program)(f:FuncId):Bool:=match P.funcs[f]? with | some fn=> !(fn.name== "runtime.NumGoroutine")&&fn.body.isSome | none=>false
def evs(L:Env):List Operand->Option (Lv_)
 | []=>some []
 | x::xs=>match ev L x,evs L xs with | some v,some vs=>some (v::vs) | _,_=>none
theorem F6{L:Env}{ρ:Operand->Value}(h:Eg L ρ):∀{xs:List Operand}{vs:Lv_},evs L xs=some vs->xs.map ρ=vs
 | [],vs,e=>by simp[evs] at e;subst e;rfl
 | x::xs,vs,e=>by
  simp only[evs] at e
  split at e
  .rename_i v ws h1 K
   cases e;rw[lG,h x v h1,F6 h K]
  .cases e
theorem Iv{f:FuncId}{s:St}{Q:Next->St->Prop}(K:Dd P f=true)(h:Q (.enter f args) s):lp P (callFunc f args) s Q X:=by
 unfold Dd at K;unfold callFunc;simp only[bind,Sem.bind,program,lp];cases O:P.funcs[f]? with
 | none=>rw[O] at K;cases K
 | some fn=>
  rw[O] at K;simp only[f5,l3] at K;have hb:fn.body.isNone=false:=by cases U:fn.body<;>simp_all
  simp only[K.1,hb,kV,lE];exact h
def Ay(P:Program)(f:FuncId)(L:Env)(n:Nat)(s:St)(v:Value):Prop:=∃fn,P.funcs[f]?=some fn/\∀T,Has n L T->lp P (results fn T) s (λu s'=>u=v/\s'=s) (λ_ _=>False)
theorem Judge.leave{c:Frame}{s:St}{v:Value}(V:b.kind=.normal)(Y:P.funcs[b.fn]?=some fn)(U:lp P (results fn T) s (λu s'=>u=v/\s'=s) (λ_ _=>False))
  (h:J.ok Q (G (c.finish v) cs) s):J.ok Q (G (Dw b T [] todo) (c::cs)) s:=by
 refine J.step ⟨rfl,λw f=>?_,λe=>?_⟩
 rotate_left
 .subst e;let⟨es,he,ab,U⟩:=NF _ U;have ac:seen P b.fn es=#[]:=OH ab;rcases U with⟨u,⟨rfl,_⟩,O⟩ | ⟨x,K,_⟩;exact⟨_,λw=>by simp[G,stepG,unwind,Dw,Y,O,doReturn,V,GStep.after,he,ac],h⟩;exact K.elim
 let⟨s',h1,Z,aa,K⟩:=LJ _ U f;cases O:(results fn T).run P w with
 | halt x w'=>rw[O] at K;exact K.elim
 | ok u w'=>
  rw[O] at h1 Z aa K;obtain⟨rfl,rfl⟩:=K;exact⟨_,s',w',seen P b.fn ((results fn T).events P w #[])++ #[],by simp[G,stepG,unwind,Dw,Y,O,doReturn,V,GStep.after],h,h1,Z,by simp only[mD];exact NN aa⟩
theorem JL.ret{s:St}{c:Frame}{v:Value}(O:b.kind=.normal)(U:b.roundOf=none)(K:Ay P b.fn L n s v)(h:J.ok Q (G (c.finish v) cs) s):JL J Q b n L [] (.code .ret::k) (c::cs) s:=λT V=>by
 obtain⟨fn,Y,K⟩:=K
 refine Judge.CM (g':=G (Dw b T [] (.code .ret::k)) (c::cs)) rfl (λw=>by simp[G,stepG,stepG.exec,fr,Dw,U]) ?_
 exact Judge.leave O Y (K T V) h
theorem JL.fin{s:St}{c:Frame}{v:Value}(O:b.kind=.normal)(U:b.roundOf=none)(K:Ay P b.fn L n s v)(h:J.ok Q (G (c.finish v) cs) s):JL J Q b n L [] [] (c::cs) s:=λT V=>by
 obtain⟨fn,Y,K⟩:=K
 refine Judge.CM (g':=G (Dw b T [] []) (c::cs)) rfl (λw=>by simp[G,stepG,stepG.exec,fr,Dw,U]) ?_
 exact Judge.leave O Y (K T V) h
theorem Ay.one{f:FuncId}{s:St}{t:Tmp}{v:Value}(K:P.funcs[f]?=some fn)(O:fn.results=#[.tmp t])(h:look L t=some v):Ay P f L n s v:=
 ⟨fn,K,λT U=>by
  have e:results fn T=Sem.pure v:=by
   have:=U.at_ t v h
   simp only[results,O,lY]
   show Sem.pure (T.getD t undef)=_
   rw[this]
  rw[e];exact⟨rfl,rfl⟩⟩
theorem Ay.none{f:FuncId}{s:St}(K:P.funcs[f]?=some fn)(O:fn.results=#[]):Ay P f L n s (.tuple #[]):=
 ⟨fn,K,λT U=>by
  have e:results fn T=Sem.pure (.tuple #[]):=by
   simp only[results,O,lY]
   rfl
  rw[e];exact⟨rfl,rfl⟩⟩
def Gh:Nat->Lv_->Env
 | _,[]=>[]
 | i,v::vs=>(i,v)::Gh (i+1) vs
theorem Kd{i t:Nat}{v:Value}(h:look (Gh i vs) t=some v):i<=t/\vs[t - i]?=some v:=by
 induction vs generalizing i with
 | nil=>simp[Gh,look] at h
 | cons u vs K=>
  simp only[Gh,look] at h;split at h;rename_i e;subst e;cases h;simp
  .rename_i U;let⟨h1,O⟩:=K h;refine⟨by omega,?_⟩;have:t - i=(t - (i+1))+1:=by omega
   rw[this];simpa using O
end
def Bo(P:Program)(t:TypeId):Option Nat:=(P.info? t).map (·.size)
def DZ(P:Program)(t:TypeId):Option Bool:=match P.underlying t with | some (.struct _)=>some true | some (.array _ _)=>some true | some _=>some false | none=>none
def zeroOf(P:Program)(t:TypeId):Option Value:=(P.info? t).bind (·.zero)
theorem EH{id:Nat}{Q:Nat->St->Prop}(h:Bo P t=some id)(k:Q id s):lp P (Go.sizeOf t) s Q X:=by
 unfold Bo at h;simp only[Go.sizeOf,typeInfo,bind,Sem.bind,program,lp];cases hi:P.info? t with
 | none=>rw[hi] at h;cases h
 | some i=>rw[hi] at h;simp at h;subst h;exact k
theorem HT{z:Value}{Q:Value->St->Prop}(h:zeroOf P t=some z)(k:Q z s):lp P (zeroValue t) s Q X:=by
 unfold zeroOf at h;simp only[zeroValue,typeInfo,bind,Sem.bind,program,lp];cases hi:P.info? t with
 | none=>rw[hi] at h;cases h
 | some i=>
  rw[hi] at h;simp at h;show lp P (match i.zero with | some v=>pure v | none=>unsupported _) s Q X
  rw[h];exact k
theorem LW{c:Bool}{Q:Bool->St->Prop}(h:DZ P t=some c)(k:Q c s):lp P (isAgg t) s Q X:=by
 unfold DZ at h;simp only[isAgg,underlying,bind,Sem.bind,program,lp];cases hu:P.underlying t with
 | none=>rw[hu] at h;cases h
 | some u=>
  rw[hu] at h;cases u<;>simp at h<;>subst h<;>exact k
theorem CE{u:TypeDesc}{Q:TypeDesc->St->Prop}(h:P.underlying t=some u)(k:Q u s):lp P (underlying t) s Q X:=by
 simp only[underlying,bind,Sem.bind,program,lp,h];exact k
theorem Qd{a:Addr}{v:Value}{Q:Value->St->Prop}(h:s.cell? a=some v)(k:Q v s):lp P (load a) s Q X:=⟨V,v,h,k⟩
theorem OC{a:Addr}{Q:Av_->St->Prop}{X:Halt->St->Prop}:∀(vs:Lv_) (i:Nat) (acc:Av_),(∀j v,vs[j]?=some v->s.cell? (a.add (i+j))=some v)->Q (acc++vs.toArray) s->lp P (loadCellsFrom a i vs.length acc) s Q X
 | [],i,acc,_,k=>by simpa [loadCellsFrom,lp,pure] using k
 | v::vs,i,acc,h,k=>by
  simp only[k0,loadCellsFrom]
  refine AG _ _ (Qd (h 0 v V) ?_)
  refine OC vs (i+1) (acc.push v) (λj u K=>?_) (by simpa using k)
  have:=h (j+1) u (by simpa using K)
  rwa[show i+1+j=i+(j+1) from by omega]
theorem OG{a:Addr}{m:Nat}{Q:Av_->St->Prop}(hm:m=vs.length)(h:∀j v,vs[j]?=some v->s.cell? (a.add j)=some v)(k:Q vs.toArray s):lp P (loadCells a m) s Q X:=by
 subst hm;exact OC vs 0 #[] (λj v K=>by simpa using h j v K) (by simpa using k)
theorem OU{a:Addr}{v:Value}{Q:Value->St->Prop}(K:DZ P t=some false)(h:s.cell? a=some v)(k:Q v s):lp P (loadVar t a) s Q X:=by
 unfold loadVar;refine AG _ _ (LW K ?_);exact Qd h k
theorem OT{a:Addr}{Q:Value->St->Prop}(K:DZ P t=some true)(O:Bo P t=some vs.length)(h:∀j v,vs[j]?=some v->s.cell? (a.add j)=some v)(k:Q (.agg vs.toArray) s):lp P (loadVar t a) s Q X:=by
 unfold loadVar;refine AG _ _ (LW K ?_);show lp P (do let r ← loadCells a (← Go.sizeOf t);pure (Value.agg r)) s Q X
 refine AG (x:=Go.sizeOf t) _ (EH O ?_);refine AG _ _ (OG V h ?_);exact k
variable {e:TypeId}
section
variable {x:Operand}{v:Value}
theorem FG{o:Oper}{sm:Sem Value}(K:execOp ρ o=(do pure (Next.value (← sm))))(h:lp P sm s (λr s'=>r=v/\s'=s) (λ_ _=>False)):Yl P o ρ s v:=by
 unfold Yl;rw[K];exact AG _ _ (CL _ h (λr s' ⟨h1,O⟩=>⟨by rw[h1],O⟩) (λ_ _ h=>h))
theorem Yl.load{a:Addr}(K:DZ P t=some false)(O:ρ x=.pointer (some a))(h:s.cell? a=some v):Yl P ⟨d,.load t x,ty,p,af,g⟩ ρ s v:=
 FG (sm:=Instr.loadAt t (ρ x)) V (by rw[O];exact OU K h ⟨rfl,rfl⟩)
theorem Bm{a:Addr}(K:DZ P t=some true)(O:Bo P t=some vs.length)(U:ρ x=.pointer (some a))(h:∀j v,vs[j]?=some v->s.cell? (a.add j)=some v):Yl P ⟨d,.load t x,ty,p,af,g⟩ ρ s (.agg vs.toArray):=
 FG (sm:=Instr.loadAt t (ρ x)) V (by rw[U];exact OT K O h ⟨rfl,rfl⟩)
theorem Yl.fieldAddr{a:Addr}{O:Array Field}{i:Nat}{K:Field}{id:Nat}(V:P.underlying t=some (.struct O))(hi:O[i]?=some K)(Y:Bo P K.type=some (id+1))(Z:ρ x=.pointer (some a)):
  Yl P ⟨d,.fieldAddr t x i,ty,p,af,g⟩ ρ s (.pointer (some (a.add K.offset))):=
 FG (sm:=Instr.fieldAt t (ρ x) i) rfl (by
  rw[Z];unfold Instr.fieldAt
  refine AG _ _ (CE V ?_)
  simp only[hi,Instr.sureAddr,bind,Sem.bind,pure]
  refine AG (x:=fieldPlace a K) _ ?_
  unfold fieldPlace
  refine AG _ _ (EH Y ?_)
  simp only[Nat.add_eq_zero_iff,Nat.succ_ne_self,and_false,lE,lp,pure]
  exact⟨trivial,trivial⟩)
theorem LA{a:Addr}{c id:Nat}(O:P.underlying t=some (.slice e))(U:Bo P e=some id)(V:ρ x=.slice (some a) l c)(Y:ρ y=.int kd m)(h:0<=m/\m<l):
  Yl P ⟨d,.indexAddr t x y,ty,p,af,g⟩ ρ s (.pointer (some (a.add (m.toNat*id)))):=
 FG (sm:=Instr.indexAt t (ρ x) (ρ y)) rfl (by
  rw[V,Y];unfold Instr.indexAt
  simp only[asIntOf,bind,Sem.bind,pure]
  refine AG (x:=underlying t) _ (CE O ?_)
  simp only[Sem.bind]
  refine AG (x:=underlying t) _ (CE O ?_)
  simp only[Sem.bind,h,and_self,lL]
  refine AG (x:=Go.sizeOf e) _ (EH U ?_)
  exact⟨rfl,rfl⟩)
theorem Ps{a:Addr}{id:Nat}(O:P.underlying t=some (.array l e))(U:Bo P e=some id)(V:ρ x=.pointer (some a))(Y:ρ y=.int kd m)(h:0<=m/\m<l):
  Yl P ⟨d,.indexAddr t x y,ty,p,af,g⟩ ρ s (.pointer (some (a.add (m.toNat*id)))):=
 FG (sm:=Instr.indexAt t (ρ x) (ρ y)) rfl (by
  rw[V,Y];unfold Instr.indexAt
  simp only[asIntOf,bind,Sem.bind,pure]
  refine AG (x:=underlying t) _ (CE O ?_)
  simp only[Sem.bind,Instr.sureAddr,pure]
  refine AG (x:=underlying t) _ (CE O ?_)
  simp only[Sem.bind,h,and_self,lL]
  refine AG (x:=Go.sizeOf e) _ (EH U ?_)
  exact⟨rfl,rfl⟩)
end
variable {ops:Ao_}{rest:List Nat}
variable{pl:Nat}
section
variable {b:Frame}{n:Nat}
variable {i:Nat}{x:Operand}{v:Value}
theorem I1{cells:Av_}{Q:Addr->St->Prop}(K:Nd E H B)(k:∀r,Nd E H (B++ [(r,.cells cells e (0,0))])->Q ⟨r,0,none⟩ (mk E H (B++ [(r,.cells cells e (0,0))]))):lp P (newRow e cells) (mk E H B) Q X:=by
 simp only[newRow,newObj,bind,Sem.bind,lp,pure];refine⟨rfl,λr h1 O=>?_⟩;obtain⟨U,V⟩:=IB h1 O (.cells cells e (0,0)) K;rw[V];exact k r U
theorem JL.alloc{z:Value}(K:ops[i]?=some ⟨d,.alloc e,ty,p,af,g⟩)(hw:AO L ops ⟨d,.alloc e,ty,p,af,g⟩=some true)(O:Bt b n ⟨d,.alloc e,ty,p,af,g⟩=true)(U:Nd E H B)(V:zeroOf P e=some z)
  (h:∀r,Nd E H (B++ [(r,.cells z.cells e (0,0))])->JL J Q b n (Az L d (.pointer (some ⟨r,0,none⟩))) ds (.inRegion ops rest::k) cs (mk E H (B++ [(r,.cells z.cells e (0,0))]))):
  JL J Q b n L ds (.inRegion ops (i::rest)::k) cs (mk E H B):=
 JL.op K hw O λρ _=>by
  show lp P (do pure (Next.value (← Instr.alloc e true (.tuple #[])))) _ _ _
  refine AG _ _ ?_
  unfold Instr.alloc
  refine AG _ _ (HT V ?_)
  refine AG _ _ (I1 U λr Y=>?_)
  exact h r Y
theorem JL.box(K:ops[i]?=some ⟨d,.box e x,ty,p,af,g⟩)(hw:AO L ops ⟨d,.box e x,ty,p,af,g⟩=some true)(O:Bt b n ⟨d,.box e x,ty,p,af,g⟩=true)(U:Nd E H B)(V:ev L x=some v)
  (h:∀r,Nd E H (B++ [(r,.cells v.cells e (0,0))])->JL J Q b n (Az L d (.pointer (some ⟨r,0,none⟩))) ds (.inRegion ops rest::k) cs (mk E H (B++ [(r,.cells v.cells e (0,0))]))):
  JL J Q b n L ds (.inRegion ops (i::rest)::k) cs (mk E H B):=
 JL.op K hw O λρ Y=>by
  show lp P (do pure (Next.value (← Instr.box e (ρ x)))) _ _ _
  rw[Y x v V]
  refine AG _ _ ?_
  unfold Instr.box
  refine AG _ _ (I1 U λr Z=>?_)
  exact h r Z
def Bf(c:Av_)(off:Nat):Lv_->Av_
 | []=>c
 | v::vs=>Bf (c.setIfInBounds off v) (off+1) vs
theorem Nk(c:Av_)(off:Nat)(vs:Lv_):(Bf c off vs).size=c.size:=by
 induction vs generalizing c off with
 | nil=>rfl
 | cons v vs K=>simp[Bf,K]
theorem Lp{id:Nat}{Q:Unit->St->Prop}{X:Halt->St->Prop}{pl off:Nat}{sp:Option Nat}:∀(vs:Lv_) (j:Nat) (c:Av_) (B:List (Nat×Obj)),(∀v∈vs,A3 v=true)->Nd E H B->B[pl]?=some (id,.cells c e (0,0))->off+j+vs.length<=c.size->(sp=none∨0<j)->
  (∀B',B'=B.set pl (id,.cells (Bf c (off+j) vs) e (0,0))->Nd E H B'->Q () (mk E H B'))->lp P (storeCells ⟨id,off,sp⟩ vs j) (mk E H B) Q X
 | [],j,c,B,_,O,K,_,_,k=>by
  simp only[storeCells,lp,pure]
  refine k B ?_ O
  simp only[Bf]
  exact(lQ λi=>by
   by_cases hi:pl=i
   .subst hi
    let⟨h1,Y⟩:=d8.1 K
    simp[h1,Y]
   .simp [hi])
 | v::vs,j,c,B,U,O,K,hle,V,k=>by
  simp only[storeCells,k0] at*
  have Z:off+j<c.size:=by omega
  have aa:(Addr.add ⟨id,off,sp⟩ j)=⟨id,off+j,none⟩:=by
   unfold Addr.add;split
   .rename_i ab;subst ab;rcases V with rfl | V
    .rfl
    .omega
   .rfl
  have ac:(cellAt (.cells c e (0,0)) ⟨id,off+j,none⟩).isSome=true:=by simp[cellAt,Z]
  refine AG (x:=store (Addr.add ⟨id,off,sp⟩ j) v) _ ?_;rw[aa];refine⟨rfl,U v (by simp),_,Ho O K,ac,by simp[frozenAt],?_⟩;simp only[lp];have ae:IK (.cells c e (0,0)) ⟨id,off+j,none⟩ v=.cells (c.setIfInBounds (off+j) v) e (0,0):=by simp[IK]
  rw[ae,VN O K];have ag:(B.set pl (id,.cells (c.setIfInBounds (off+j) v) e (0,0)))[pl]?=some (id,.cells (c.setIfInBounds (off+j) v) e (0,0)):=by
   have:pl<B.length:=(d8.1 K).1;simp[this]
  refine Lp vs (j+1) _ _ (λu hu=>U u (kO _ hu)) (O.set K) ag (by simp;omega) (.inr (by omega)) λah e2 ai=>k ah ?_ ai;rw[e2,m3];simp only[Bf]
  rfl
theorem OR{id:Nat}{c:Av_}{Q:Unit->St->Prop}(K:Bo P t=some v.cells.size)(O:∀u∈v.cells.toList,A3 u=true)(U:Nd E H B)(V:B[pl]?=some (id,.cells c e (0,0)))(hle:off+v.cells.size<=c.size)
  (k:Nd E H (B.set pl (id,.cells (Bf c off v.cells.toList) e (0,0)))->Q () (mk E H (B.set pl (id,.cells (Bf c off v.cells.toList) e (0,0))))):lp P (storeVar t ⟨id,off,none⟩ v) (mk E H B) Q X:=by
 unfold storeVar;refine AG _ _ (EH K ?_);simp only[ne_eq,not_true_eq_false,lE];refine Lp v.cells.toList 0 c B O U V (by simpa using hle) (.inl rfl) λB' e Y=>?_;subst e;exact k Y
theorem JL.store{id:Nat}{c:Av_}(pl:Nat)(O:ops[i]?=some ⟨d,.store t x y,ty,p,af,g⟩)(hw:AO L ops ⟨d,.store t x y,ty,p,af,g⟩=some true)(U:Bt b n ⟨d,.store t x y,ty,p,af,g⟩=true)(V:Nd E H B)
  (Y:ev L x=some (.pointer (some ⟨id,off,none⟩))) (Z:ev L y=some v) (aa:Bo P t=some v.cells.size) (ab:∀u∈v.cells.toList,A3 u=true) (ac:B[pl]?=some (id,.cells c e (0,0))) (hle:off+v.cells.size<=c.size)
  (h:Nd E H (B.set pl (id,.cells (Bf c off v.cells.toList) e (0,0)))->JL J Q b n (Az L d undef) ds (.inRegion ops rest::k) cs (mk E H (B.set pl (id,.cells (Bf c off v.cells.toList) e (0,0))))):
  JL J Q b n L ds (.inRegion ops (i::rest)::k) cs (mk E H B):=
 JL.op O hw U λρ K=>by
  show lp P (do Instr.storeAt t (ρ x) (ρ y);pure Next.skip) _ _ _
  rw[K x _ Y,K y _ Z]
  refine AG _ _ ?_
  unfold Instr.storeAt
  simp only[Instr.sureAddr,bind,Sem.bind,pure]
  exact OR aa ab V ac hle λae=>h ae
end
def GJ(P:Program)(t:TypeId):Option Nat:=(P.info? t).map (·.bytes)
variable{xs ys:Lv_}{cx:Nat}{ax:Option Addr}
section
variable {b:Frame}{n:Nat}
variable {i:Nat}{x:Operand}{v:Value}
theorem Nc{inf:TypeInfo}{Q:TypeInfo->St->Prop}(h:P.info? t=some inf)(k:Q inf s):lp P (typeInfo t) s Q X:=by
 simp only[typeInfo,bind,Sem.bind,program,lp,h];exact k
theorem SY{id:Nat}(h:GJ P t=some id):∃inf,P.info? t=some inf/\inf.bytes=id:=by
 unfold GJ at h;cases hi:P.info? t with
 | none=>rw[hi] at h;cases h
 | some i=>rw[hi] at h;simp at h;exact⟨i,rfl,h⟩
theorem Ka(a:α)(f:α->Sem β):((pure a:Sem α)>>=f)=f a:=rfl
def Ie(s:St)(v:Value)(K:Nat)(xs:Lv_):Prop:=
 match v with
 | .slice (some a) l c=>(a.spot=none∨l=0)/\xs.length=l*K/\l<=c/\∀j w,xs[j]?=some w->s.cell? ⟨a.block,a.off+j,none⟩=some w
 | .slice none l _=>l=0/\xs=[]
 | _=>False
theorem DK{a:Addr}(h:a.spot=none)(j:Nat):a.add j=⟨a.block,a.off+j,none⟩:=by
 unfold Addr.add;obtain⟨b,o,sp⟩:=a;simp only at h;subst h;split;rename_i e;subst e;rfl;rfl
theorem Lo{id:Nat}{Q:Av_->St->Prop}(V:∃a c,v=.slice a l c)(h:Ie s v id xs)(k:Q xs.toArray s):lp P (Builtin.firstCells id l v) s Q X:=by
 obtain⟨a,c,rfl⟩:=V;cases a with
 | none=>
  obtain⟨h1,rfl⟩:=h;exact k
 | some a=>
  obtain⟨h1,K,Z,Y⟩:=h;refine OG K.symm (λj w O=>?_) k;rcases h1 with h1 | h1;rw[DK h1];exact Y j w O;rw[h1,mq] at K;rw[lN K] at O;cases O
theorem Sr(nl:Nat):∀(r c:Nat),Builtin.growBy nl r c<=max c (2*nl+768):=by
 intro r
 induction r with
 | zero=>intro c;simp[Builtin.growBy];omega
 | succ r K=>
  intro c;simp only[Builtin.growBy];split;omega;rename_i h;have:=K (c+(c+768)/4);omega
theorem Sb{need old:Nat}(h:old<need):Builtin.nextslicecap need old<=2*need+768:=by
 unfold Builtin.nextslicecap;split;omega;split;omega;have:=Sr need 4 old;omega
theorem Rc(z:Av_)(m:Nat):(Builtin.zeroCells z m).size=m*z.size:=by simp[Builtin.zeroCells]
def On(B:List (Nat×Obj))(pl:Nat)(e:TypeId)(K:Nat)(a:Option Addr)(l c:Nat)(xs:Lv_):Prop:=
 (a=none/\l=0/\c=0/\xs=[])∨∃bk f,a=some ⟨bk,0,none⟩/\B[pl]?=some (bk,.cells f e (0,0))/\f.size=c*K/\l<=c/\xs=f.toList.take (l*K)
theorem ON(c:Av_)(off:Nat)(vs:Lv_)(h:off+vs.length<=c.size):(Bf c off vs).toList.take (off+vs.length)=c.toList.take off++vs:=by
 induction vs generalizing c off with
 | nil=>simp[Bf]
 | cons v vs O=>
  simp only[Bf,k0] at*;have:=O (c.setIfInBounds off v) (off+1) (by simp;omega);rw[show off+(vs.length+1)=off+1+vs.length from by omega,this];have K:off<c.toList.length:=by simp;omega
  rw[Array.toList_setIfInBounds,List.take_add_one];have U:(c.toList.set off v)[off]?=some v:=by simp at K;simp[K]
  rw[U];simp[List.take_set_of_le]
theorem Pp{a:Option Addr}{c id V m:Nat}{z:Value}{Q:Value->St->Prop}
  (ar:ats[0]?=some t) {t1 au:TypeId}(av:ats[1]?=some t1) (aw:P.underlying t1=some (.slice au)) (ay:P.underlying t=some (.slice e)) (az:Bo P e=some id) (hb:GJ P e=some V) (aA:zeroOf P e=some z) (aB:z.cells.size=id)
  (ag:Nd E H B) (ah:On B pl e id a l c xs)
  (ac:Ie (mk E H B) (.slice ax m cx) id ys) (aC:∀w∈ys,A3 w=true) (aN:0<V) (aO:l+m<=2^40) (aD:V<=127)
  (aE:∀bk f O,a=some ⟨bk,0,none⟩->B[pl]?=some (bk,.cells f e (0,0))->O=Bf f (l*id) ys->l+m<=c->O.size=c*id->O.toList.take ((l+m)*id)=xs++ys->Nd E H (B.set pl (bk,.cells O e (0,0)))->Q (.slice a (l+m) c) (mk E H (B.set pl (bk,.cells O e (0,0)))))
  (aF:a=none->m=0->Q (.slice none 0 0) (mk E H B))
  (aG:∀r O Y,l+m<=Y->O.size=Y*id->O.toList.take ((l+m)*id)=xs++ys->Nd E H (B++ [(r,.cells O e (0,0))])->Q (.slice (some ⟨r,0,none⟩) (l+m) Y) (mk E H (B++ [(r,.cells O e (0,0))]))):
  lp P (Builtin.append_ ats ty #[.slice a l c,.slice ax m cx]) (mk E H B) Q X:=by
 unfold Builtin.append_;simp only[ar,av,lM,lP,m7];refine AG _ _ (CE ay ?_);refine AG _ _ (EH az ?_);refine AG _ _ (CE aw ?_);simp only[Ka,kV,lE,Builtin.lenOf,Bool.not_false,lL];have Z:ys.length=m*id:=by
  cases ax with
  | none=>obtain⟨h1,ai⟩:=ac;subst h1 ai;simp
  | some ad=>exact ac.2.1
 have aj:∃(aH:Option Addr) (Y:Nat),Ie (mk E H B) (.slice a l c) id xs/\aH=a/\Y=c:=by
  refine⟨a,c,?_,rfl,rfl⟩;rcases ah with⟨rfl,rfl,rfl,rfl⟩ | ⟨bk,f,rfl,aa,U,ab,rfl⟩;exact⟨rfl,rfl⟩
  .have hle:l*id<=f.size:=by rw[U];exact la _ ab
   refine⟨.inl rfl,by simp[l7 hle],ab,λj w ae=>?_⟩;refine PZ ag aa ?_;simp only[l1];rw[lU] at ae;split at ae;simpa using ae;cases ae
 obtain⟨_,_,aj,_,_⟩:=aj;have ak:xs.length=l*id:=by
  rcases ah with⟨rfl,rfl,rfl,rfl⟩ | ⟨bk,f,rfl,aa,U,ab,rfl⟩;simp
  .have hle:l*id<=f.size:=by rw[U];exact la _ ab
   simp[l7 hle]
 split
 .rename_i ap;refine AG _ _ (Lo ⟨ax,cx,rfl⟩ ac ?_);rcases ah with⟨rfl,rfl,rfl,rfl⟩ | ⟨bk,f,rfl,aa,U,ab,rfl⟩
  .obtain rfl:m=0:=by omega
   simp only;exact aF rfl rfl
  .simp only;have hle:l*id+ys.length<=f.size:=by rw[Z,U,← mH];exact la _ ap
   have aI:(Addr.add ⟨bk,0,none⟩ (l*id))=⟨bk,l*id,none⟩:=by rw[DK rfl];simp
   rw[aI];refine AG _ _ (Lp (pl:=pl) ys.toArray.toList 0 f B (by simpa using aC) ag aa (by simpa using hle) (.inl rfl) λB' aq al=>?_);simp only[k6] at aq;subst aq;refine aE bk f _ rfl aa rfl ap (by rw[Nk,U]) ?_ al;have:=ON f (l*id) ys hle;rw[Z,← mH] at this;exact this
 .rename_i aP;have h1:¬(((l+m:Nat):Int)>IntKind.i64.max/\(False∨V=0)):=by rintro⟨_,h | h⟩<;>omega
  have ai:¬(Builtin.nextslicecap (l+m) c*V>2^48):=by
   have:=Sb (need:=l+m) (old:=c) (by omega);have aQ:Builtin.nextslicecap (l+m) c*V<=(2*(l+m)+768)*127:=Nat.mul_le_mul this aD;omega
  let⟨inf,am,an⟩:=SY hb;refine AG _ _ (Nc am ?_);rw[an,d7 h1];refine AG _ _ (Nc am ?_);rw[an,d7 ai];refine AG _ _ ?_;simp only[choose,lp,Question.forced,kV,lE];refine⟨rfl,λaJ=>?_⟩;generalize aK:(Question.appendCap (l+m) c e).cut aJ=ao;have aL:l+m<=ao:=by rw[← aK];simp[Question.cut]
  refine AG _ _ (Nc am ?_);rw[an];have aM:∀{α:Type}{f:Unit->Sem α}{Q:α->St->Prop},lp P (f ()) (mk E H B) Q X->lp P (askRoom (ao*V)>>=f) (mk E H B) Q X:=by
   intro α f Q U;refine AG _ _ ?_;unfold askRoom;split;exact⟨.inl ⟨rfl,rfl⟩,U⟩;exact U
  refine aM (AG _ _ (Lo ⟨a,c,rfl⟩ aj ?_));refine AG _ _ (Lo ⟨ax,cx,rfl⟩ ac ?_);refine AG _ _ (HT aA ?_);refine AG _ _ (I1 ag λr al=>?_);refine aG r _ ao aL ?_ ?_ al;simp only[Array.size_append,mX,Rc,aB,ak,Z];rw[← mH,← mH];congr 1;omega;simp only[Array.toList_append];rw[List.take_append_of_le_length (by simp[ak,Z,mH])];rw[ml (by simp[ak,Z,mH])]
end
theorem MO{P:Program}(x:Sem α):∀{s:St}{Q:α->St->Prop}{X:Halt->St->Prop},lp P x s Q X->lp P x s (λa s'=>Q a s'/\s'.E=s.E/\s'.q=s.q) X:=by
 induction x with
 | pure a=>intro s Q X h;exact⟨h,rfl,rfl⟩
 | load m a k K=>intro s Q X h;obtain⟨h1,v,O,U⟩:=h;exact⟨h1,v,O,K _ U⟩
 | store m a v k K=>intro s Q X h;obtain⟨h1,O,o,U,Y,Z,aa⟩:=h;exact⟨h1,O,o,U,Y,Z,K aa⟩
 | new o k K=>intro s Q X h;exact⟨h.1,λr h1 O=>K _ (h.2 r h1 O)⟩
 | shape r k K=>intro s Q X h;obtain⟨o,h1,O⟩:=h;exact⟨o,h1,K _ O⟩
 | freeze a n k K=>intro s Q X h;exact h
 | frozen a k K=>intro s Q X h;obtain⟨o,h1,O⟩:=h;exact⟨o,h1,K _ O⟩
 | getObj r k K=>intro s Q X h;obtain⟨o,h1,O,U⟩:=h;exact⟨o,h1,O,K _ U⟩
 | setObj r o k K=>intro s Q X h;obtain⟨h1,O,U⟩:=h;exact⟨h1,O,K U⟩
 | choose q k K=>
  intro s Q X h;simp only[lp] at h ⊢;split;rename_i V;rw[d5 V] at h;exact K _ h;rename_i V;rw[d7 V] at h;exact⟨h.1,λt=>K _ (h.2 t)⟩
 | sys c k K=>intro s Q X h;exact h
 | program k K=>intro s Q X h;exact K _ h
 | mark m k K=>intro s Q X h;exact⟨h.1,K h.2⟩
 | halt h=>intro s Q X h;exact h
def A2(D:Nat->Bool)(s:St):St:=⟨λb=>if D b then s.get b else s.E b,λb=>if D b then none else s.H b,s.q⟩
def Bz(D:Nat->Bool)(s s':St):St:=⟨λb=>if D b then s.E b else s'.E b,λb=>if D b then s.H b else s'.H b,s'.q⟩
theorem I3(D:Nat->Bool)(s:St):Bz D s (A2 D s)=s:=by
 obtain⟨E,H,q⟩:=s;unfold Bz A2;congr 1;funext b;by_cases h:D b<;>simp[h];funext b;by_cases h:D b<;>simp[h]
theorem S4{D:Nat->Bool}{s:St}(f:Fits s w):Fits (A2 D s) w where
 e b o h:=by
  by_cases hd:D b;simp[A2,hd] at h;exact f.get h;simp[A2,hd] at h;exact f.e b o h
 h b o h:=by
  by_cases hd:D b;simp[A2,hd] at h;simp[A2,hd] at h;exact f.h b o h
 d b h:=by
  by_cases hd:D b;simp[A2,hd];simp[A2,hd] at h ⊢;exact f.d b h
def CZ{P:Program}(J:Judge P)(f:FuncId)(args:Av_)(s:St)(R:Value->St->Prop):Prop:=
 ∀(Q:Gs_) (c:Frame) (cs:Lf_),(∀v s',R v s'->J.ok Q (G (c.finish v) cs) s')->J.ok Q (G (Frame.enter P f args .normal) (c::cs)) s
variable{R:Value->St->Prop}
theorem CZ.Ag{P:Program}{J:Judge P}{f:FuncId}{s:St}{K:Value->St->Prop}(h:CZ J f args s R)(O:∀v s',R v s'->K v s'):CZ J f args s K:=
 λQ c cs U=>h Q c cs λv s' V=>U v s' (O v s' V)
section
variable {b:Frame}{n:Nat}
theorem Judge.Qo(D:Nat->Bool){ops:Ao_}{i:Nat}{rest:List Nat}{o:Oper}(V:ops[i]?=some o)(hw:Region.wanted o (yielded ops T)=true)(ap:b.kind≠ .early)
  (hd:∀c,o.op≠ .defer c) (aq:s.q=false)
  (h:lp P (execOp (Bc T) o) (A2 D s) (λnx s'=>upon J Q b T ds ops i rest k cs o.dst nx (Bz D s s')) (λ_ _=>False)):
  J.ok Q (G (fr b T ds (.inRegion ops (i::rest)::k)) cs) s:=by
 refine J.step ⟨rfl,λw f=>?_,λe=>by subst e;cases aq⟩;have Y:((fr b T ds (.inRegion ops (i::rest)::k)).kind==CallKind.early)=false:=by simpa [fr] using ap
 have ar:stepG P J.main (G (fr b T ds (.inRegion ops (i::rest)::k)) cs) w=stepG.apply P true (fr b T ds (.inRegion ops (i::rest)::k)) cs none (execOp (Bc T) o) w:=by
  rw[stepG_op V hw];split;rename_i l c aB e2;exact absurd e2 (hd c);rfl
 let⟨Z,h1,ae,au,O⟩:=LJ _ (MO _ h) (S4 (D:=D) f);have ag:=NN (P:=P) (fn:=b.fn) au;have ak:=λv=>F7 (b:=b) (ds:=ds) (k:=k) T ops i rest v o V;have key:∀w',Fits Z w'->Fr (A2 D s) w Z w'->Z.E=(A2 D s).E->Fits (Bz D s Z) w'/\Fr s w (Bz D s Z) w':=by
  intro w' ah g2 av;have al:∀b,D b=true->b<w.heap.size->w'.heap[b]?=w.heap[b]? :=λb hb ai=>g2.keep b ai (by simp[A2,hb]);have am:∀b o,(s.H b=some o∨s.E b=some o)->b<w.heap.size:=λb o V=>by
   have:=V.elim (f.h b o) (f.e b o);rcases kC b w.heap.size with aj | aj;exact aj;simp[kJ aj] at this
  refine⟨⟨λb o hb=>?_,λb o hb=>?_,λb hb=>?_⟩,⟨g2.size,λb ai hb=>?_,λb hb=>?_,λb o hb=>?_,λb hb=>?_,g2.tape,g2.os,g2.output⟩⟩;by_cases K:D b;simp[Bz,K] at hb;rw[al b K (am b o (.inr hb))];exact f.e b o hb;simp[Bz,K] at hb;exact ah.e b o hb;by_cases K:D b;simp[Bz,K] at hb;rw[al b K (am b o (.inl hb))];exact f.h b o hb;simp[Bz,K] at hb;exact ah.h b o hb;by_cases K:D b;simp[Bz,K] at hb ⊢;exact f.d b hb;simp[Bz,K] at hb ⊢;exact ah.d b hb;exact g2.keep b ai (by by_cases K:D b<;>simp[A2,K,hb]);by_cases K:D b;simp[Bz,K] at hb;exact .inl hb;simp[Bz,K] at hb;rcases g2.own b hb with q | q;left;simpa [A2,K] using q;exact .inr q;by_cases K:D b;simp[Bz,K];exact hb;simp only[Bz,K,kV,lE];rw[av];simp[A2,K,hb];by_cases K:D b;simp[Bz,K] at hb;exact .inl hb;simp[Bz,K] at hb;rcases g2.Dg b hb with q | q | q;left;simpa [A2,K] using q;right;left;simpa [A2,K] using q;exact .inr (.inr q)
 have aw:∀w',(∀e∈seen P b.fn ((execOp (Bc T) o).events P w #[]),Ev (A2 D s) w w' e)->∀e∈seen P b.fn ((execOp (Bc T) o).events P w #[]),Ev s w w' e:=by
  intro w' he e hm;have:=he e hm;have an:∀{b wr},Fl (A2 D s) w w' b wr->Fl s w w' b wr:=by
   intro b wr ao;refine⟨ao.1,?_⟩;rcases ao.2 with q | q | ⟨q,q'⟩;left;by_cases K:D b<;>simp[A2,K] at q;exact q;exact .inr (.inl q);by_cases K:D b;simp[A2,K,St.get] at q;by_cases ac:s.E b=none;left;intro ay;rw[ac,ay] at q;exact q rfl;exact .inr (.inr ⟨ac,q'⟩);simp[A2,K] at q;exact .inr (.inr ⟨q,q'⟩)
  unfold Ev at this ⊢;split<;>rename_i az<;>simp only[az] at this;exact⟨this.1,an this.2⟩;exact⟨this.1,an this.2⟩;trivial;trivial
 rw[ar];cases U:(execOp (Bc T) o).run P w with
 | ok nx w'=>
  rw[U] at h1 ae O ag;simp only[IL] at h1 ae ag;obtain⟨O,ac,_⟩:=O;let⟨k1,aa⟩:=key w' h1 ae ac;have ab:=aw w' ag;cases nx with
  | value v=>exact⟨_,_,w',seen P b.fn ((execOp (Bc T) o).events P w #[])++ #[],by simp[stepG.apply,U,Y,GStep.after,G,ak,EA],O,k1,aa,by simpa using ab⟩
  | skip=>exact⟨_,_,w',seen P b.fn ((execOp (Bc T) o).events P w #[])++ #[],by simp[stepG.apply,U,Y,GStep.after,G,ak,EA],O,k1,aa,by simpa using ab⟩
  | enter g args=>exact⟨_,_,w',seen P b.fn ((execOp (Bc T) o).events P w #[])++ #[],by simp[stepG.apply,U,Y,GStep.after,G,EA,Gy],O,k1,aa,by simpa using ab⟩
  | round l g tm as aC=>exact⟨_,_,w',seen P b.fn ((execOp (Bc T) o).events P w #[])++ #[],by simp[stepG.apply,U,Y,GStep.after,G,EA,Gy],O,k1,aa,by simpa using ab⟩
  | defer d=>
   have aA:=F7 (b:=b) (ds:=d::ds) (k:=k) T ops i rest undef o V;exact⟨_,_,w',seen P b.fn ((execOp (Bc T) o).events P w #[])++ #[],by
    rw[← aA];simp[stepG.apply,U,Y,GStep.after,G,EA,Gy];rfl,O,k1,aa,by simpa using ab⟩
  | _=>exact O.elim
 | halt x w'=>rw[U] at O;exact O.elim
end
def QJ(m:Nat)(listed:Array Bool):Bool:=(List.range m).all λi=>listed.getD i false
def AZ(listed:Array Bool)(i:Nat):Array Bool:=listed.setIfInBounds i true
variable{oi:Oper}
section
variable (J:Judge P)(Q:Gs_)(b:Frame)(ds:Ld_)(ops:Ao_)(k:Li_)(cs:Lf_)(m:Nat)(D:Nat->Bool)
def JA:Nat->Array Bool->Av_->St->Prop
 | 0,listed,T,s=>Region.ready .any ops listed=[]/\J.ok Q (G (fr b T ds (.inRegion ops []::k)) cs) s
 | fuel+1,listed,T,s=>
  (QJ m listed=true/\∀t,J.ok Q (G (fr b T ds (.inRegion ops (Region.linearise.go .any ops (fuel+1) t listed [])::k)) cs) s)∨
  (Region.ready .any ops listed≠ []/\s.q=false/\∀i∈Region.ready .any ops listed,∀o,ops[i]?=some o->(∀c,o.op≠ .defer c)/\
   (Region.wanted o (yielded ops T)=false->JA fuel (AZ listed i) (B6 T o.dst undef) s)/\
   (Region.wanted o (yielded ops T)=true->lp P (execOp (Bc T) o) (A2 D s) (λnx s'=>match nx with
    | .value v=>JA fuel (AZ listed i) (B6 T o.dst v) (Bz D s s')
    | .skip=>JA fuel (AZ listed i) (B6 T o.dst undef) (Bz D s s')
    | .enter f args=>∃R,CZ J f args (Bz D s s') R/\∀v K,R v K->K.q=false/\(∀x o,(A2 D s).E x=some o->(A2 D K).E x=some o)/\JA fuel (AZ listed i) (B6 T o.dst v) K
    | _=>False) (λ_ _=>False)))
variable {J Q b ds ops k cs m D}
theorem Ty(Y:b.kind≠ .early):∀(fuel t:Nat) (listed:Array Bool) (T:Av_) (s:St),JA J Q b ds ops k cs m D fuel listed T s->
  J.ok Q (G (fr b T ds (.inRegion ops (Region.linearise.go .any ops fuel t listed [])::k)) cs) s:=by
 intro fuel
 induction fuel with
 | zero=>intro t listed T s h;simpa [Region.linearise.go] using h.2
 | succ fuel K=>
  intro t listed T s h;rcases h with⟨_,h⟩ | ⟨Z,aa,h⟩;exact h t
  .obtain⟨i,hi⟩:∃i,(Region.ready .any ops listed)[t%(Region.ready .any ops listed).length]?=some i:=by
    have:0<(Region.ready .any ops listed).length:=List.length_pos_iff.2 Z;exact⟨_,f9 (mO _ this)⟩
   have V:=kL hi;have hgo:Region.linearise.go .any ops (fuel+1) t listed []=i::Region.linearise.go .any ops fuel (t/(Region.ready .any ops listed).length) (AZ listed i) []:=by
    simp only[Region.linearise.go];change (match(Region.ready .any ops listed)[t%(Region.ready .any ops listed).length]? with
     | some i=>Region.linearise.go .any ops fuel (t/(Region.ready .any ops listed).length) (listed.setIfInBounds i true) [i]
     | none=>[].reverse)=_
    rw[hi];simp only;rw[linearise_go_acc];rfl
   rw[hgo];let⟨_,o,O,_⟩:=mem_ready.1 V;let⟨hd,h0,h1⟩:=h i V o O;cases hw:Region.wanted o (yielded ops T) with
   | false=>exact Judge.unwanted O hw (K _ _ _ _ (h0 hw))
   | true=>
    refine Judge.Qo D O hw Y hd aa (CL _ (h1 hw) ?_ (λ_ _ h=>h));intro nx s' U;cases nx with
    | value v=>exact K _ _ _ _ U
    | skip=>exact K _ _ _ _ U
    | enter f args=>
     obtain⟨R,ab,ac⟩:=U;refine ab Q _ cs λv ae ag=>?_;rw[F7 _ _ _ _ _ _ O];exact K _ _ _ _ (ac v ae ag).2.2
    | _=>exact U.elim
theorem T4{d:Option Tmp}{v:Value}{x:Operand}(h:∀t,d=some t->x≠ .tmp t):Bc (B6 T d v) x=Bc T x:=by
 cases d with
 | none=>rfl
 | some t=>
  cases x with
  | tmp u=>
   have K:t≠u:=λe=>h t rfl (e▸rfl);simp only[B6,Bc,kA,f6 K]
  | _=>rfl
theorem Gw{d:Option Tmp}{v:Value}{o:Oper}(K:∀cs b,o.op≠ .select cs b)(h:∀t,d=some t->t ∉ o.looksAt ops):
  execOp (Bc (B6 T d v)) o=execOp (Bc T) o/\Region.wanted o (yielded ops (B6 T d v))=Region.wanted o (yielded ops T):=by
 refine⟨execOp_congr o K λx O=>T4 λt U V=>h t U ?_,?_⟩;subst V;exact lF _ (List.mem_filterMap.2 ⟨.tmp t,by simpa using O,rfl⟩)
 .have:=wanted_put (ops:=ops) o (⟨T,[]⟩:Act) d v h
  rwa[act_put'] at this
 where
  act_put' {T : Av_}{d : Option Tmp}{v : Value} : (⟨T, []⟩ : Act).put d v = ⟨B6 T d v, []⟩ :=by cases d<;>rfl
theorem Hl{d e:Option Tmp}{v u:Value}(h:∀t,d=some t->e≠some t):B6 (B6 T d v) e u=B6 (B6 T e u) d v:=by
 cases d with
 | none=>rfl
 | some t=>
  cases e with
  | none=>rfl
  | some K=>
   have O:t≠K:=λq=>h t rfl (q▸rfl);simp[B6,mE _ _ O]
theorem OV{D:Nat->Bool}{s s':St}(K:s'.E=(A2 D s).E):(A2 D (Bz D s s')).E=(A2 D s).E:=by
 funext x;by_cases h:D x;simp[A2,Bz,h,St.get];have:=congrFun K x;simp[A2,h] at this;simp[A2,Bz,h,this]
def G4(ops:Ao_)(listed:Array Bool)(i:Nat)(oi:Oper):Bool:=
 (List.range ops.size).all λj=>j==i || listed.getD j true || match ops[j]? with
  | some K=>(K.after.any λe=>Region.binds .any e&&e.on==i) || oi.apart ops K
  | none=>true
def waits(ops:Ao_):Nat->Nat->Nat->Bool
 | 0,_,_=>false
 | f+1,j,i=>match ops[j]? with
  | some K=>K.after.any λe=>Region.binds .any e&&(e.on==i || waits ops f e.on i)
  | none=>true
def G3(ops:Ao_)(m:Nat):Bool:=
 (List.range ops.size).all λj=>decide (j<m) || (List.range m).all λi=>waits ops ops.size j i
def Ga(ops:Ao_)(listed:Array Bool):Bool:=
 (List.range ops.size).all λj=> !listed.getD j false || match ops[j]? with
  | some K=>K.after.all λe=> !Region.binds .any e || listed.getD e.on false
  | none=>true
theorem Ni{listed:Array Bool}(h:Ga ops listed=true){j:Nat}(O:ops[j]?=some oi)(U:listed.getD j false=true):∀e∈oi.after,Region.binds .any e=true->listed.getD e.on false=true:=by
 intro e he hb;have:=kW.1 h j (lH.2 (f4.1 O).1);rw[U,O] at this;simp only[Bool.not_true,nj] at this;have:=l6.1 this e he;rw[hb] at this;simpa using this
theorem OK{listed:Array Bool}(Y:Ga ops listed=true){i:Nat}:∀(f j:Nat) (O:Oper),ops[j]?=some O->(∀e∈O.after,Region.binds .any e=true->listed.getD e.on false=true)->waits ops f j i=true->listed.getD i false=true∨∃x,ops[x]?=none/\listed.getD x false=true:=by
 intro f
 induction f with
 | zero=>intro j O _ _ h;cases h
 | succ f Z=>
  intro j O aa hd h;simp only[waits,aa] at h;let⟨e,he,K⟩:=Array.any_eq_true'.1 h;simp only[f5,lu,mb] at K;obtain⟨hb,K⟩:=K;have U:=hd e he hb;rcases K with rfl | K;exact .inl U
  .cases V:ops[e.on]? with
   | none=>exact .inr ⟨_,V,U⟩
   | some o=>exact Z e.on o V (λab ac ae=>Ni Y V U ab ac ae) K
theorem JA.take{i:Nat}{w:Bool}{v:Value}(hi:ops[i]?=some oi)(aP:i<m)(aQ:G3 ops m=true)(aR:Region.noSelect ops=true)(aS:∀c,oi.op≠ .defer c):
  ∀(fuel:Nat) (listed:Array Bool) (T:Av_) (s:St),G4 ops listed i oi=true->Ga ops listed=true->listed.size=ops.size->i∈Region.ready .any ops listed->s.q=false->Region.wanted oi (yielded ops T)=w->
   (w=true->∀s',s'.q=false->(∀x o,(A2 D s).E x=some o->s'.E x=some o)->Yl P oi (Bc T) s' v)->
   JA J Q b ds ops k cs m D fuel (AZ listed i) (B6 T oi.dst (if w then v else undef)) s->JA J Q b ds ops k cs m D (fuel+1) listed T s:=by
 have ah:∀(j:Nat) (aa:Oper),ops[j]?=some aa->∀cs b,aa.op≠Op.select cs b:=λj aa h cs b=>Region.noSelect_spec aR j aa cs b h;intro fuel
 induction fuel with
 | zero=>?_
 | succ fuel am=>?_
 all_goals
  intro listed T s aF aG ai an ao hw aj h;refine .inr ⟨λe=>(by rw[e] at an;cases an),ao,λj aH aa O=>?_⟩;by_cases ag:j=i
  .subst ag;obtain rfl:aa=oi:=by rw[hi] at O;exact(d0 O).symm
   refine⟨aS,λh0=>?_,λh1=>?_⟩;rw[h0] at hw;subst hw;exact h;rw[h1] at hw;subst hw;refine CL _ (aj rfl (A2 D s) ao λ_ _ h=>h).out ?_ (λ_ _ h=>h);rintro nx s' ⟨rfl,rfl⟩;rw[I3];exact h
  ·
   have aI:j∈Region.ready .any ops (AZ listed i):=ready_mono aH ag;let⟨ab,U,aJ,az⟩:=mem_ready.1 aH;obtain rfl:U=aa:=by rw[O] at aJ;exact(d0 aJ).symm
   have aA:=(mem_ready.1 an).1;have aT:(U.after.any λe=>Region.binds .any e&&e.on==i)=false:=by
    rw[Array.any_eq_false];intro e he K;simp only[f5,mb] at K;have:=az _ (Array.getElem_mem he) K.1;rw[K.2] at this;have V:listed.getD i true=listed.getD i false∨listed.size<=i:=by
     rcases kC i listed.size with q | q;left;simp[kA,q];exact .inr q
    rcases V with V | V;rw[aA,this] at V;cases V;rw[kA,kJ V] at this;simp at this
   have aU:oi.apart ops U=true:=by
    have ak:j<ops.size:=(f4.1 O).1;have:=kW.1 aF j (lH.2 ak);simp only[lu,mb] at this;rcases this with(q | q) | q;exact absurd q ag;rw[ab] at q;cases q;rw[O] at q;simp only[lu] at q;rw[aT] at q;exact q.resolve_left (by simp)
   let⟨a1,ap,aq⟩:=Oper.apart_spec aU;let⟨p1,p2⟩:=Gw (ops:=ops) (T:=T) (v:=if w then v else undef) (ah j U O) a1
   first
    | exact absurd aI (by rw[h.1];simp)
    | (
     rcases h with⟨aV,_⟩ | ⟨a9,_,h⟩
     ·
      exfalso
      have aW:¬j<m:=by
       intro ak
       have:=kW.1 aV j (lH.2 ak)
       have e2:(AZ listed i).getD j false=listed.getD j false:=getD_set_ne false (kU ag)
       rw[e2] at this
       have V:listed.getD j true=true:=by
        rcases kC j listed.size with q | q;simp[kA,q] at this ⊢;exact this;simp[kA,kJ q] at this
       rw[ab] at V;cases V
      have ak:j<ops.size:=(f4.1 O).1
      have:=kW.1 aQ j (lH.2 ak)
      simp only[lu,k9] at this
      have:=kW.1 (this.resolve_left aW) i (lH.2 aP)
      rcases OK aG _ j U O (λe he hb=>az e he hb) this with q | ⟨x,Y,Z⟩
      .have aX:i<listed.size:=by rw[ai];exact(f4.1 hi).1
       simp[kA,aX] at q aA
       rw[aA] at q;cases q
      .have:¬x<listed.size:=by rw[ai];intro K;simp[K] at Y
       simp[kA,this] at Z
     .let⟨hd,h0,h1⟩:=h j aI U O
      have ar:AZ (AZ listed i) j=AZ (AZ listed j) i:=by
       unfold AZ;exact mE _ _ (kU ag)
      have au:i∈Region.ready .any ops (AZ listed j):=ready_mono an (kU ag)
      have av:G4 ops (AZ listed j) i oi=true:=by
       refine kW.2 λx K=>?_
       have:=kW.1 aF x K
       simp only[lu,mb] at this ⊢
       rcases this with(q | q) | q;exact .inl (.inl q)
       .left;right
        by_cases e:j=x;subst e;rw[ab] at q;cases q;rw[AZ,getD_set_ne true e];exact q
       .exact .inr q
      have aw:(AZ listed j).size=ops.size:=by unfold AZ;simpa using ai
      have ay:Ga ops (AZ listed j)=true:=by
       refine kW.2 λx K=>?_
       cases aB:ops[x]? with
       | none=>simp
       | some aY=>
        simp only[lu,l3]
        by_cases e:j=x
        .subst e
         obtain rfl:aY=U:=by rw[O] at aB;exact(d0 aB).symm
         right
         refine l6.2 λe he=>?_
         cases hb:Region.binds .any e with
         | false=>simp
         | true=>
          have:=az e he hb
          by_cases e2:j=e.on
          .rw [← e2] at this
           have aC:j<listed.size:=by rw[ai];exact(f4.1 O).1
           simp[kA,aC] at this ab
           rw[ab] at this;cases this
          .rw [AZ,getD_set_ne false e2];simpa using this
        .cases aK:(AZ listed j).getD x false with
         | false=>exact .inl rfl
         | true=>
          right
          have aZ:listed.getD x false=true:=by rw[AZ,getD_set_ne false e] at aK;exact aK
          refine l6.2 λaD he=>?_
          cases hb:Region.binds .any aD with
          | false=>simp
          | true=>
           have:=Ni aG aB aZ aD he hb
           by_cases e2:j=aD.on
           .rw [← e2] at this
            have aC:j<listed.size:=by rw[ai];exact(f4.1 O).1
            simp[kA,aC] at this ab
            rw[ab] at this;cases this
           .rw [AZ,getD_set_ne false e2];simpa using this
      refine⟨hd,λa2=>?_,λa3=>?_⟩
      .have:=h0 (by rw[p2];exact a2)
       rw[ar,Hl ap] at this
       let⟨Y,Z⟩:=Gw (ops:=ops) (T:=T) (d:=U.dst) (v:=undef) (o:=oi) (ah i oi hi) aq
       exact am _ _ _ av ay aw au ao (by rw[Z];exact hw) (λac s' a4 aE=>by unfold Yl;rw[Y];exact(aj ac s' a4 aE).out) this
      .have aL:=MO _ (h1 (by rw[p2];exact a3))
       rw[p1] at aL
       refine CL _ aL ?_ (λ_ _ h=>h)
       rintro nx s' ⟨K,aE,a5⟩
       have aM:=OV (D:=D) aE
       have aN:(Bz D s s').q=false:=by show s'.q=false;rw[a5];exact ao
       cases nx with
       | value u=>
        simp only at K ⊢
        rw[ar,Hl ap] at K
        let⟨Y,Z⟩:=Gw (ops:=ops) (T:=T) (d:=U.dst) (v:=u) (o:=oi) (ah i oi hi) aq
        exact am _ _ _ av ay aw au aN (by rw[Z];exact hw) (λac s2 al ae=>by unfold Yl;rw[Y];exact(aj ac s2 al (by rw[aM] at ae;exact ae)).out) K
       | skip=>
        simp only at K ⊢
        rw[ar,Hl ap] at K
        let⟨Y,Z⟩:=Gw (ops:=ops) (T:=T) (d:=U.dst) (v:=undef) (o:=oi) (ah i oi hi) aq
        exact am _ _ _ av ay aw au aN (by rw[Z];exact hw) (λac s2 al ae=>by unfold Yl;rw[Y];exact(aj ac s2 al (by rw[aM] at ae;exact ae)).out) K
       | enter f args=>
        obtain⟨R,a6,a7⟩:=K
        refine⟨R,a6,λu a8 hu=>?_⟩
        let⟨aO,r1,r2⟩:=a7 u a8 hu
        refine⟨aO,r1,?_⟩
        rw[ar,Hl ap] at r2
        let⟨Y,Z⟩:=Gw (ops:=ops) (T:=T) (d:=U.dst) (v:=u) (o:=oi) (ah i oi hi) aq
        exact am _ _ _ av ay aw au aO (by rw[Z];exact hw) (λac s2 al ae=>by unfold Yl;rw[Y];exact(aj ac s2 al (λx o K=>ae x o (r1 x o K))).out) r2
       | _=>exact K.elim)
end
section
variable (J:Judge P)(Q:Gs_)(b:Frame)(n:Nat)(ds:Ld_)(ops:Ao_)(k:Li_)(cs:Lf_)(m:Nat)(D:Nat->Bool)
def AL(fuel:Nat)(listed:Array Bool)(L:Env)(s:St):Prop:=∀T,Has n L T->JA J Q b ds ops k cs m D fuel listed T s
end
def Dy:Nat->Bool:=λ_=>false
variable {D:Nat->Bool}{listed:Array Bool}
variable{tail:List Nat}
section
variable {b:Frame}{n m fuel:Nat}
theorem PI(m:Nat)(D:Nat->Bool){id:Nat}(K:s.q=false)(hm:P.follows .mixedOrders=true)(O:(b.kind != .early)=true)(h:AL J Q b n ds ops k cs m D ops.size (Array.replicate ops.size false) L s):JL J Q b n L ds (.code (.region id ops true)::k) cs s:=
 Qp K hm λt T U=>Ty (by simpa using O) ops.size t _ T s (h T U)
theorem Sp{i:Nat}{v:Value}(hi:ops[i]?=some oi)(U:decide (i<m)=true)(V:G3 ops m=true)(Y:Region.noSelect ops=true)(O:(!CX oi.op)=true)(Z:G4 ops listed i oi=true)(aa:Ga ops listed=true)(ab:(listed.size==ops.size)=true)(ac:(Region.ready .any ops listed).contains i=true)(ae:s.q=false)
  (hw:AO L ops oi=some true) (ag:A5 n oi.dst=true) (ah:∀ρ,Eg L ρ->∀s',s'.q=false->(∀x o,(A2 D s).E x=some o->s'.E x=some o)->Yl P oi ρ s' v)
  (h:AL J Q b n ds ops k cs m D fuel (AZ listed i) (Az L oi.dst v) s):AL J Q b n ds ops k cs m D (fuel+1) listed L s:=λT K=>by
 refine JA.take (w:=true) (v:=v) hi (by simpa using U) V Y (λc ai=>by rw[ai] at O;simp[CX] at O) fuel listed T s Z aa (by simpa using ab) (by simpa using ac) ae (BF K hw) (λ_ s' aj ak=>ah _ K.Gi s' aj ak) ?_
 exact h _ (K.put ag v)
theorem SM{i:Nat}(hi:ops[i]?=some oi)(U:decide (i<m)=true)(V:G3 ops m=true)(Y:Region.noSelect ops=true)(K:(!CX oi.op)=true)(Z:G4 ops listed i oi=true)(aa:Ga ops listed=true)(ab:(listed.size==ops.size)=true)(ac:(Region.ready .any ops listed).contains i=true)(ae:s.q=false)
  (hw:AO L ops oi=some false) (ag:A5 n oi.dst=true)
  (h:AL J Q b n ds ops k cs m D fuel (AZ listed i) (Az L oi.dst undef) s):AL J Q b n ds ops k cs m D (fuel+1) listed L s:=λT O=>by
 refine JA.take (w:=false) (v:=undef) hi (by simpa using U) V Y (λc ah=>by rw[ah] at K;simp[CX] at K) fuel listed T s Z aa (by simpa using ab) (by simpa using ac) ae (BF O hw) (λe=>by cases e) ?_
 exact h _ (O.put ag undef)
theorem PH(Z:s.q=false)(aa:Region.ready .any ops listed≠ [])
  (h:∀i∈Region.ready .any ops listed,∀o,ops[i]?=some o->(!CX o.op)=true/\A5 n o.dst=true/\∃w,AO L ops o=some w/\
   (w=false->AL J Q b n ds ops k cs m D fuel (AZ listed i) (Az L o.dst undef) s)/\
   (w=true->∀ρ,Eg L ρ->lp P (execOp ρ o) (A2 D s) (λnx s'=>match nx with
    | .value v=>AL J Q b n ds ops k cs m D fuel (AZ listed i) (Az L o.dst v) (Bz D s s')
    | .skip=>AL J Q b n ds ops k cs m D fuel (AZ listed i) (Az L o.dst undef) (Bz D s s')
    | .enter f args=>∃R,CZ J f args (Bz D s s') R/\∀v K,R v K->K.q=false/\(∀x o,(A2 D s).E x=some o->(A2 D K).E x=some o)/\AL J Q b n ds ops k cs m D fuel (AZ listed i) (Az L o.dst v) K
    | _=>False) (λ_ _=>False))):
  AL J Q b n ds ops k cs m D (fuel+1) listed L s:=λT O=>by
 refine .inr ⟨aa,Z,λi hi o ab=>?_⟩
 let⟨h1,U,w,hw,ac,ae⟩:=h i hi o ab
 have V:=BF O hw
 refine⟨λc ag=>by rw[ag] at h1;simp[CX] at h1,λe=>?_,λe=>?_⟩
 .rw [e] at V
  exact ac V.symm _ (O.put U undef)
 .rw [e] at V;refine CL _ (ae V.symm _ O.Gi) ?_ (λ_ _ h=>h);intro nx s' Y;cases nx with
  | value v=>exact Y _ (O.put U v)
  | skip=>exact Y _ (O.put U undef)
  | enter f args=>
   obtain⟨R,ah,ai⟩:=Y;exact⟨R,ah,λv K aj=>let ⟨a,b,c⟩:=ai v K aj;⟨a,b,c _ (O.put U v)⟩⟩
  | _=>exact Y.elim
theorem AL.one{i:Nat}{o:Oper}(Z:s.q=false)(V:Region.ready .any ops listed=[i])(hi:ops[i]?=some o)(O:(!CX o.op&&A5 n o.dst)=true)(hw:AO L ops o=some true)
  (h:∀ρ,Eg L ρ->lp P (execOp ρ o) (A2 D s) (λnx s'=>match nx with
    | .value v=>AL J Q b n ds ops k cs m D fuel (AZ listed i) (Az L o.dst v) (Bz D s s')
    | .skip=>AL J Q b n ds ops k cs m D fuel (AZ listed i) (Az L o.dst undef) (Bz D s s')
    | .enter f args=>∃R,CZ J f args (Bz D s s') R/\∀v K,R v K->K.q=false/\(∀x o,(A2 D s).E x=some o->(A2 D K).E x=some o)/\AL J Q b n ds ops k cs m D fuel (AZ listed i) (Az L o.dst v) K
    | _=>False) (λ_ _=>False)):
  AL J Q b n ds ops k cs m D (fuel+1) listed L s:=by
 simp only[f5] at O;refine PH Z (by rw[V];simp) λj U o' Y=>?_;rw[V] at U;simp at U;subst U;obtain rfl:o'=o:=by rw[hi] at Y;exact(d0 Y).symm
 exact⟨O.1,O.2,true,hw,λe=>(by cases e),λ_=>h⟩
theorem AL.call{i:Nat}{d:Option Tmp}{f:FuncId}{args:Array Operand}{ty:TypeId}{p:String}{af:Ae_}{g:On_}(U:s.q=false)(V:Region.ready .any ops listed=[i])
  (Y:ops[i]?=some ⟨d,.call ⟨.value (.func f),args,ats⟩,ty,p,af,g⟩) (Z:A5 n d=true) (hw:AO L ops ⟨d,.call ⟨.value (.func f),args,ats⟩,ty,p,af,g⟩=some true) (hb:Dd P f=true) (aa:evs L args.toList=some vs)
  (ab:CZ J f vs.toArray s R) (h:∀v K,R v K->K.q=false/\(∀x o,(A2 D s).E x=some o->(A2 D K).E x=some o)/\AL J Q b n ds ops k cs m D fuel (AZ listed i) (Az L d v) K):
  AL J Q b n ds ops k cs m D (fuel+1) listed L s:=by
 refine AL.one U V Y (by simp[CX,Z]) hw λρ O=>?_;have ac:args.map ρ=vs.toArray:=by
  rw[← F6 O aa];apply lJ;simp
 have ae:ρ (.func f)=.func (.func f) #[] #[]:=O _ _ rfl;simp only[execOp,resolve,bind,Sem.bind,Deferred.ofValue,ae,pure,invoke];have e: #[]++args.map ρ++ #[]=vs.toArray:=by rw[ac];simp
 rw[e];refine Iv hb ?_;rw[I3];exact⟨R,ab,h⟩
theorem AL.leaf(K:QJ m listed=true)(hgo:∀t,Region.linearise.go .any ops (fuel+1) t listed []=tail)(h:JL J Q b n L ds (.inRegion ops tail::k) cs s):AL J Q b n ds ops k cs m D (fuel+1) listed L s:=λT O=>
 .inl ⟨K,λt=>by rw[hgo t];exact h T O⟩
theorem AL.fin(K:Region.ready .any ops listed=[])(h:JL J Q b n L ds k cs s):AL J Q b n ds ops k cs m D 0 listed L s:=λT O=>⟨K,JL.done h T O⟩
theorem Bb{listed:Array Bool}{i fuel:Nat}(K:Region.ready .any ops listed=[i])(h:∀t,Region.linearise.go .any ops fuel t (AZ listed i) []=tail)(t:Nat):Region.linearise.go .any ops (fuel+1) t listed []=i::tail:=by
 simp only[Region.linearise.go];change (match(Region.ready .any ops listed)[t%(Region.ready .any ops listed).length]? with
  | some i=>Region.linearise.go .any ops fuel (t/(Region.ready .any ops listed).length) (listed.setIfInBounds i true) [i]
  | none=>[].reverse)=_
 rw[K];simp only[nb,Nat.mod_one,lP];rw[linearise_go_acc];have:=h (t/1);unfold AZ at this;rw[this];rfl
theorem Cn{listed:Array Bool}(t:Nat):Region.linearise.go .any ops 0 t listed []=[]:=rfl
theorem TX{i:Nat}{rest:List Nat}{d:Option Tmp}{f:FuncId}{args:Array Operand}{ty:TypeId}{p:String}{af:Ae_}{g:On_}
  (U:ops[i]?=some ⟨d,.call ⟨.value (.func f),args,ats⟩,ty,p,af,g⟩) (hw:AO L ops ⟨d,.call ⟨.value (.func f),args,ats⟩,ty,p,af,g⟩=some true) (K:((b.kind != .early)&&A5 n d)=true) (hb:Dd P f=true)
  (V:evs L args.toList=some vs) (Y:CZ J f vs.toArray s R) (Z:∀v s',R v s'->JL J Q b n (Az L d v) ds (.inRegion ops rest::k) cs s'):
  JL J Q b n L ds (.inRegion ops (i::rest)::k) cs s:=λT O=>by
 simp only[f5] at K
 have aa:args.map (Bc T)=vs.toArray:=by
  rw[← F6 O.Gi V];apply lJ;simp
 refine Judge.oper U (BF O hw) (by simpa using K.1) (.inr λc ab=>by cases ab) ?_;have hd:lp P (execOp (Bc T) ⟨d,.call ⟨.value (.func f),args,ats⟩,ty,p,af,g⟩) s (upon J Q b T ds ops i rest k cs d) (MK J Q b T ds ops i rest k cs):=by
  simp only[execOp,resolve,bind,Sem.bind,Deferred.ofValue,Bc,pure,invoke];have e: #[]++args.map (Bc T)++ #[]=vs.toArray:=by rw[aa];simp
  rw[e];refine Iv hb (Y Q _ cs λv s' ac=>?_);rw[F7 (o:=⟨d,.call ⟨.value (.func f),args,ats⟩,ty,p,af,g⟩) _ _ _ _ _ U];exact Z v s' ac _ (O.put K.2 v)
 exact hd
theorem CZ.enter{f:FuncId}{c:Code}(V:P.funcs[f]?=some fn)(hb:fn.body=some c)(ab:vs.length<=fn.ntmps)
  (h:∀(Q:Gs_) (K:Frame) (cs:Lf_),(∀v s',R v s'->J.ok Q (G (K.finish v) cs) s')->JL J Q (base f) fn.ntmps (Gh 0 vs) [] [.code c] (K::cs) s):CZ J f vs.toArray s R:=λQ K cs Y=>by
 have he:Frame.enter P f vs.toArray .normal=fr (base f) (vs.toArray++Array.replicate (fn.ntmps - vs.length) undef) [] [.code c]:=by
  simp[Frame.enter,fr,V,hb,base];rfl
 rw[he];refine h Q K cs Y _ ⟨by simp;omega,λt v Z=>?_⟩;let⟨_,O⟩:=Kd Z;have aa:t<vs.length:=by
  rcases kC t vs.length with U | U;exact U;simp at O;have:=(d8.1 O).1;omega
 rw[kA,lT (by simpa using aa)];simp at O;simp[O]
end
variable {E':LH}{B0:List (Nat×Obj)}
variable{blk:List (Nat×Obj)}
section
variable {b:Frame}{n:Nat}
theorem Qm(O:s.q=false)(h:(∃w,Fits s w)->JL J Q b n L ds k cs s):JL J Q b n L ds k cs s:=λT U=>by
 by_cases K:∃w,Fits s w;exact h K T U;exact J.step ⟨V,λw f=>absurd ⟨w,f⟩ K,λe=>by subst e;cases O⟩
theorem O3{x:Nat}:∀{B:List (Nat×Obj)},(∃p∈B,p.1=x)->AS B H x≠none
 | [],⟨p,K,_⟩=>by cases K
 | (c,o)::B,⟨p,K,e⟩=>by
  simp only[AS]
  split;simp;rename_i O;rcases f7.1 K with q | q;subst q;exact absurd e.symm O;exact O3 ⟨p,q,e⟩
theorem Nd.grow(U:Nd E H B)(hd:∀x,E' x≠none->AS B H x=none):Nd E' H B:=by
 have key:∀{C:List (Nat×Obj)},Nd E H C->(∀p∈C,p∈B)->Nd E' H C:=by
  intro C
  induction C with
  | nil=>intro _ _;trivial
  | cons p C V=>
   obtain⟨c,o⟩:=p;intro hC O;refine⟨?_,hC.2.1,hC.2.2.1,V hC.2.2.2 λp K=>O p (kO _ K)⟩;cases Y:E' c with
   | none=>rfl
   | some u=>exact absurd (hd c (by rw[Y];simp)) (O3 ⟨(c,o),O _ (by simp),rfl⟩)
 exact key U λp K=>K
def MW(E:LH)(K:Nat)(v:Value)(n:Nat)(xs:Lv_):Prop:=
 ∃a c,v=.slice a n c/\n<=c/\xs.length=n*K/\(n=0∨∃bk off f e fr,a=some ⟨bk,off,none⟩/\E bk=some (.cells f e fr)/\∀j w,xs[j]?=some w->f[off+j]?=some w)
theorem MW.nil{id:Nat}:MW E id (.slice none 0 0) 0 []:=⟨none,0,V,kG _,by simp,.inl V⟩
def GS(e:TypeId)(K:Nat)(a:Option Addr)(l c:Nat)(blk:List (Nat×Obj))(xs:Lv_):Prop:=
 (a=none/\l=0/\c=0/\blk=[]/\xs=[])∨∃bk f,a=some ⟨bk,0,none⟩/\blk=[(bk,.cells f e (0,0))]/\f.size=c*K/\l<=c/\xs=f.toList.take (l*K)
theorem GS.nil{e:TypeId}{id:Nat}:GS e id none 0 0 [] []:=.inl ⟨V,V,V,V,V⟩
theorem GS.length{e:TypeId}{id:Nat}{a:Option Addr}{c:Nat}(h:GS e id a l c blk xs):xs.length=l*id:=by
 rcases h with⟨_,rfl,_,_,rfl⟩ | ⟨bk,f,_,_,O,U,rfl⟩;simp;have:l*id<=c*id:=la _ U;simp[O,l7 this]
theorem Rg{t e:TypeId}{v:Value}{Q:Value->St->Prop}{z:Value}(O:P.underlying t=some (.slice e))(U:Bo P e=some v.cells.size)(V:zeroOf P e=some z)(ac:z.cells.size=v.cells.size)(ae:0<v.cells.size)(ag:v.cells.size<=64)
  (Y:Nd E H B) (k:∀r,Nd E H (B++ [(r,.cells v.cells e (0,0))])->Q (.slice (some ⟨r,0,none⟩) 1 1) (mk E H (B++ [(r,.cells v.cells e (0,0))]))):lp P (Instr.buildSlice t 1 #[(0,v)]) (mk E H B) Q X:=by
 unfold Instr.buildSlice;refine AG _ _ (CE O ?_);refine AG _ _ (EH U ?_);rw[d7 (by omega),d7 (by omega)];refine AG (x:=zeroValue e) _ (HT V ?_);have Z:Instr.fill (λi=>some (i*v.cells.size,v.cells.size)) ((Array.range (1*v.cells.size)).map λi=>z.cells[i%z.cells.size]!) [(0,v)]=some v.cells:=by
  simp only[Instr.fill,Array.size_map,Array.size_range,Nat.one_mul,mq];rw[d7 (by simp)];congr 1;apply lf;intro j;have key:∀(l:Lv_) (st:Nat) (c:Av_),st+l.length<=c.size->∀j,(List.foldl (λcs (p:Value×Nat)=>cs.setIfInBounds (0+p.2) p.1) c (l.zipIdx st))[j]?=if st<=j/\j<st+l.length then l[j - st]? else c[j]? :=by
   intro l
   induction l with
   | nil=>intro st c _ j;simp;omega
   | cons x l aa=>
    intro st c ah j;simp only[m4,mg,k0] at*;rw[aa (st+1) _ (by simp;omega) j];simp only[l1];by_cases ab:j=st;subst ab;rw[d7 (by omega),d5 (by omega)];rw[nn,lP,kD (by omega)]
    .by_cases e2:st+1<=j/\j<st+1+l.length
     .rw [d5 e2,d5 (by omega)];have:j - st=(j - (st+1))+1:=by omega
      rw[this];simp
     .rw [d7 e2,d7 (by omega),f6 (by omega)]
  have:=key v.cells.toList 0 ((Array.range v.cells.size).map λi=>z.cells[i%z.cells.size]!) (by simp) j;rw[← Array.foldl_toList,Array.toList_zipIdx,this];by_cases K:j<v.cells.size;simp[K];simp[K]
 rw[Ka];simp only[Z];exact AG _ _ (I1 Y k)
end
variable{d1:Tmp}{t1:TypeId}
section
variable {b:Frame}{n:Nat}
theorem OF{ρ:Operand->Value}{d:Option Tmp}{x y:Operand}{ty:TypeId}{p:String}{af:Ae_}{g:On_}:
  execOp ρ ⟨d,.call ⟨.builtin .append,#[x,y],ats⟩,ty,p,af,g⟩=(do pure (Next.value (← Builtin.append_ ats ty #[ρ x,ρ y]))):=by
 simp[execOp,resolve,invoke,builtin,bind,Sem.bind,pure]
theorem Rj{ρ:Operand->Value}{d:Option Tmp}{y:Operand}{t ty:TypeId}{p:String}{af:Ae_}{g:On_}:
  execOp ρ ⟨d,.buildSlice t 1 #[(0,y)],ty,p,af,g⟩=(do pure (Next.value (← Instr.buildSlice t 1 #[(0,ρ y)]))):=by
 simp[execOp]
theorem V3{L:Env}{w:Value}:ev (Az L (some d1) w) (.tmp d1)=some w:=by
 simp[Az,ev,look]
theorem Kq(l r:List α)(x y:α):(l++x::r).set l.length y=l++y::r:=by simp
theorem HU{e t:TypeId}{id ae c m:Nat}{a:Option Addr}{i:Nat}{rest:List Nat}{d:Option Tmp}{x y:Operand}{ty:TypeId}{p:String}{af:Ae_}{g:On_}{z:Value}{B1:List (Nat×Obj)}
  (ap:ops[i]?=some ⟨d,.call ⟨.builtin .append,#[x,y],ats⟩,ty,p,af,g⟩) (hw:AO L ops ⟨d,.call ⟨.builtin .append,#[x,y],ats⟩,ty,p,af,g⟩=some true) (aq:Bt b n ⟨d,.call ⟨.builtin .append,#[x,y],ats⟩,ty,p,af,g⟩=true)
  (ar:ev L x=some (.slice a l c)) (au:ev L y=some (.slice ax m cx)) (av:ats[0]?=some t) (aw:ats[1]?=some t1) (ay:P.underlying t=some (.slice e)) (az:P.underlying t1=some (.slice e)) (aA:Bo P e=some id) (hb:GJ P e=some ae) (aB:zeroOf P e=some z) (aC:z.cells.size=id)
  (aD:0<ae) (aE:ae<=127) (aO:0<m) (aF:l+m<=2^40) (aG:∀w∈ys,A3 w=true) (ag:GS e id a l c blk xs) (aH:Nd E H (B0++blk++B1)) (aI:Ie (mk E H (B0++blk++B1)) (.slice ax m cx) id ys)
  (h:∀an Z ah,GS e id an (l+m) Z ah (xs++ys)->Nd E H (B0++ah)->JL J Q b n (Az L d (.slice an (l+m) Z)) ds (.inRegion ops rest::k) cs (mk E H (B0++ah))):
  JL J Q b n L ds (.inRegion ops (i::rest)::k) cs (mk E H (B0++blk++B1)):=by
 refine JL.op ap hw aq λρ ao=>?_;rw[OF,ao x _ ar,ao y _ au];have aJ:On (B0++blk++B1) B0.length e id a l c xs:=by
  rcases ag with⟨h1,Y,aa,ai,ab⟩ | ⟨bk,f,h1,Y,aa,ai,ab⟩;exact .inl ⟨h1,Y,aa,ab⟩;refine .inr ⟨bk,f,h1,?_,aa,ai,ab⟩;subst Y;simp
 have hlen:=ag.length;refine AG _ _ (Pp (pl:=B0.length) av aw az ay aA hb aB aC aH aJ aI aG aD aF aE ?_ ?_ ?_)
 ·
  intro bk f K ac aP aQ aK aj ak V;rcases ag with⟨h1,_⟩ | ⟨O,f0,h1,Y,aa,ai,ab⟩;rw[h1] at ac;cases ac
  .subst Y;have aL:O=bk:=by rw[h1] at ac;simpa using ac
   subst aL;have aM:(B0++ [(O,Obj.cells f0 e (0,0))]++B1).set B0.length (O,.cells K e (0,0))=B0++ [(O,.cells K e (0,0))]++B1:=by
    rw[lA,lA];exact Kq _ _ _ _
   rw[aM] at V ⊢;have al:Nd E H (B0++ [(O,.cells K e (0,0))]):=Nd.left V;refine JL.drop (B0++ [(O,.cells K e (0,0))]) (λp am=>?_) V (h a c _ (.inr ⟨O,K,h1,rfl,aj,aK,ak.symm⟩) al);exact kQ.1 (lF _ am)
 .intro _ hm;omega
 ·
  intro r K Z aN aj ak V;have al:Nd E H (B0++ [(r,.cells K e (0,0))]):=Nd.pick V;refine JL.drop (B0++ [(r,.cells K e (0,0))]) (λp am=>?_) V (h (some ⟨r,0,none⟩) Z _ (.inr ⟨r,K,rfl,rfl,aj,aN,ak.symm⟩) al);refine kQ.1 ?_;rcases kM.1 am with q | q;simp[q];exact lB _ q
 where
  Nd.left {E H : LH}{A C : List (Nat × Obj)}(h : Nd E H (A ++ C)) : Nd E H A :=by
    induction A with
    | nil =>trivial
    | cons p A ih =>
      obtain ⟨c, o⟩ :=p
      obtain ⟨h1, h2, h3, h4⟩ :=h
      exact ⟨h1, h2, λq hq =>h3 q (lF _ hq), ih h4⟩
  Nd.pick {E H : LH}{A C F : List (Nat × Obj)}{x : Nat × Obj}(h : Nd E H (A ++ C ++ F ++ [x])) : Nd E H (A ++ [x]) :=by
    induction A with
    | nil =>
      have : ∀ (D : List (Nat × Obj)), Nd E H (D ++ [x]) -> Nd E H [x] :=by
        intro D
        induction D with
        | nil =>exact λh =>h
        | cons p D ih =>obtain ⟨c, o⟩ :=p; exact λh =>ih h.2.2.2
      exact this _ h
    | cons p A ih =>
      obtain ⟨c, o⟩ :=p
      obtain ⟨h1, h2, h3, h4⟩ :=h
      refine ⟨h1, h2, λq hq =>h3 q ?_, ih h4⟩
      rcases kM.1 hq with hq | hq
      . simp[hq]
      . exact lB _ hq
theorem Sx{id:Nat}{e:TypeId}{v:Value}{A:List (Nat×Obj)}(O:v.cells.size=id)(U:Nd E H (A++ [(r,.cells v.cells e (0,0))])):
  Ie (mk E H (A++ [(r,.cells v.cells e (0,0))])) (.slice (some ⟨r,0,none⟩) 1 1) id v.cells.toList:=by
 refine⟨.inl rfl,by simp[O],kG _,λj w V=>?_⟩;simp only[l1];refine PZ (i:=A.length) U (c:=v.cells) (e:=e) (f:=(0,0)) (by simp) ?_;simpa using V
theorem RR{e t t2:TypeId}{id O c:Nat}{a:Option Addr}{i ab:Nat}{rest:List Nat}{d:Option Tmp}{x y:Operand}{ty U:TypeId}{p V:String}{af Y:Ae_}{g g':On_}{z v:Value}
  (ak:ops[i]?=some ⟨some d1,.buildSlice t2 1 #[(0,y)],U,V,Y,g'⟩) (hw:AO L ops ⟨some d1,.buildSlice t2 1 #[(0,y)],U,V,Y,g'⟩=some true) (al:Bt b n ⟨some d1,.buildSlice t2 1 #[(0,y)],U,V,Y,g'⟩=true)
  (am:ops[ab]?=some ⟨d,.call ⟨.builtin .append,#[x,.tmp d1],ats⟩,ty,p,af,g⟩) (an:∀w,AO (Az L (some d1) w) ops ⟨d,.call ⟨.builtin .append,#[x,.tmp d1],ats⟩,ty,p,af,g⟩=some true) (ao:Bt b n ⟨d,.call ⟨.builtin .append,#[x,.tmp d1],ats⟩,ty,p,af,g⟩=true)
  (ap:∀w,ev (Az L (some d1) w) x=some (.slice a l c)) (aq:ev L y=some v) (ar:ats[0]?=some t) (au:ats[1]?=some t1) (av:P.underlying t=some (.slice e)) (aw:P.underlying t1=some (.slice e)) (ay:P.underlying t2=some (.slice e)) (ac:Bo P e=some id) (hb:GJ P e=some O) (ae:zeroOf P e=some z) (ag:z.cells.size=id)
  (az:0<O) (aA:O<=127) (Z:v.cells.size=id) (aG:0<id) (aH:id<=64) (aB:l+1<=2^40) (aC:∀w∈v.cells.toList,A3 w=true) (aD:GS e id a l c blk xs) (aE:Nd E H (B0++blk))
  (h:∀w ah ai aa,GS e id ah (l+1) ai aa (xs++v.cells.toList)->Nd E H (B0++aa)->JL J Q b n (Az (Az L (some d1) w) d (.slice ah (l+1) ai)) ds (.inRegion ops rest::k) cs (mk E H (B0++aa))):
  JL J Q b n L ds (.inRegion ops (i::ab::rest)::k) cs (mk E H (B0++blk)):=by
 refine JL.op ak hw al λρ aF=>?_;rw[Rj,aF y _ aq];refine AG _ _ (Rg (z:=z) (v:=v) ay (by rw[Z];exact ac) ae (by rw[Z];exact ag) (by omega) (by omega) aE λr aj=>?_);refine HU (B1:=[(r,.cells v.cells e (0,0))]) (m:=1) (cx:=1) (ax:=some ⟨r,0,none⟩) (y:=.tmp d1) (x:=x) (ys:=v.cells.toList) (l:=l) (c:=c) (a:=a) (blk:=blk) (xs:=xs) am (an _) ao (ap _) V3 ar au av aw ac hb ae ag az aA (by omega) aB aC aD aj ?_ (h _);exact Sx Z aj
theorem Ry{e:TypeId}{id c:Nat}{a:Option Addr}(Z:GS e id a l c blk xs)(U:Nd E H (B0++blk))
  (h:∀E',Le E E'->MW E' id (.slice a l c) l xs->Nd E' H B0->JL J Q b n L ds todo cs (mk E' H B0)):JL J Q b n L ds todo cs (mk E H (B0++blk)):=by
 rcases Z with⟨rfl,rfl,rfl,rfl,rfl⟩ | ⟨bk,f,rfl,rfl,aa,V,rfl⟩;simp only[k2] at U ⊢;exact h E (Le.refl _) .nil U
 .have ab:(B0++ [(bk,Obj.cells f e (0,0))])[B0.length]?=some (bk,Obj.cells f e (0,0)):=by simp
  refine JL.freeze B0.length U ab λE' hle ac Y=>?_;have ae:(B0++ [(bk,Obj.cells f e (0,0))]).eraseIdx B0.length=B0:=by rw[mc (kG _)];simp
  rw[ae] at Y ⊢;refine h E' hle ⟨_,c,rfl,V,?_,.inr ⟨bk,0,f,e,(0,0),rfl,ac,λj w O=>?_⟩⟩ Y;have:l*id<=c*id:=la _ V;simp[aa,l7 this];rw[lU] at O;split at O;simpa using O;cases O
end
abbrev iV(n:Int):Value:=.int .i64 n
variable {c:Nat}
section
variable {x:Operand}{a:Nat}
end
variable{K:TypeInfo}
theorem NO{P:Program}{t:TypeId}(h:P.types[t]?=some K):P.info? t=some K:=by
 have:=(f4.1 h).1;unfold Tables.info?;rw[d5 this,h]
theorem AB{P:Program}{t:TypeId}(h:P.types[t]?=some K):Bo P t=some K.size:=by simp[Bo,NO h]
theorem EK{P:Program}{t:TypeId}(h:P.types[t]?=some K):GJ P t=some K.bytes:=by simp[GJ,NO h]
theorem Cm{P:Program}{t:TypeId}(h:P.types[t]?=some K):zeroOf P t=K.zero:=by simp[zeroOf,NO h]
def WT:TypeDesc->Bool | .struct _=>true | .array _ _=>true | _=>false
theorem De{P:Program}{t:TypeId}{d:TypeDesc}(h:P.underlying t=some d):DZ P t=some (WT d):=by
 unfold DZ;rw[h];cases d<;>rfl
theorem A4{P:Program}{f:FuncId}(h:P.funcs[f]?=some fn)(hb:(!(fn.name== "runtime.NumGoroutine")&&fn.body.isSome)=true):Dd P f=true:=by
 simp only[Dd,h];exact hb
def Qv(a:Nat):Nat->List Nat
 | 0=>[]
 | n+1=>Qv a n++(if a.testBit n then [n] else [])
abbrev JF(a:Nat):List Nat:=Qv a 16
end Pal
namespace Pal
open Go Go.Conc
def At(E:LH)(bk o:Nat)(ws:Lv_):Prop:=∃f e fr,E bk=some (.cells f e fr)/\∀j w,ws[j]?=some w->f[o+j]?=some w
theorem At.Ag{E E':LH}{id o:Nat}{ws:Lv_}(h:At E id o ws)(hle:Le E E'):At E' id o ws:=let ⟨f,e,fr,h1,K⟩:=h;⟨f,e,fr,hle _ _ h1,K⟩
variable{j:Nat}
theorem At.cell{E H:LH}{B:List (Nat×Obj)}{id o:Nat}{ws:Lv_}{w:Value}(h:At E id o ws)(K:ws[j]?=some w):(mk E H B).cell? ⟨id,o+j,none⟩=some w:=
 let ⟨_,_,_,h1,O⟩:=h;SQ h1 (O j w K)
theorem At.cells{E H:LH}{B:List (Nat×Obj)}{id o:Nat}{ws:Lv_}(h:At E id o ws):∀j v,ws[j]?=some v->(mk E H B).cell? (Addr.add ⟨id,o,none⟩ j)=some v:=λj v K=>by
 rw[DK rfl];exact h.cell K
variable {P:Program}{J:Judge P}{Q:Gs_}{ds:Ld_}{ops:Ao_}{k:Li_}{cs:Lf_}{L:Env}{s:St}{E E' H:LH}{B B0:List (Nat×Obj)}
variable {d:Option Tmp}{y:Operand}{t u ty e:TypeId}{p:String}{af:Ae_}{g:On_}{rest:List Nat}{kd:IntKind}
section
variable {b:Frame}{n:Nat}
variable {x:Operand}{v:Value}{i:Nat}
theorem JL.put(h:look L i=some v)(O:JL J Q b n (Az L (some i) v) ds k cs s):JL J Q b n L ds k cs s:=λT K=>
 O T ⟨K.size,λt w e=>by
  simp only[Az,look] at e
  split at e;rename_i U;subst U;cases e;exact K.at_ _ _ h
  .exact K.at_ _ _ e⟩
theorem DW{q:Prop} [Decidable q] (h:look L i=some (.bool (decide q)))(h1:q->JL J Q b n (Az L (some i) (.bool true)) ds k cs s)(O:¬q->JL J Q b n (Az L (some i) (.bool false)) ds k cs s):JL J Q b n L ds k cs s:=by
 by_cases K:q;refine JL.put (i:=i) (v:=.bool true) ?_ (h1 K);rw[h,k8 K];refine JL.put (i:=i) (v:=.bool false) ?_ (O K);rw[h,kZ K]
theorem EY{c:Bool}(h:look L i=some (.bool c))(h1:c=true->JL J Q b n (Az L (some i) (.bool true)) ds k cs s)(K:c=false->JL J Q b n (Az L (some i) (.bool false)) ds k cs s):JL J Q b n L ds k cs s:=by
 cases c;exact JL.put h (K V);exact JL.put h (h1 V)
end
variable{O:Array Field}
theorem Aq{P:Program}{s:St}{ρ:Operand->Value}{d:Option Tmp}{t ty ft:TypeId}{x:Operand}{p:String}{af:Ae_}{g:On_}{a:Addr}{i:Nat}{K:Field}(U off:Nat)(V:P.underlying t=some (.struct O))(Y:Bo P ft=some (U+1))(hi:O[i]?=some K)(Z:K.type=ft)(aa:K.offset=off)(ab:ρ x=.pointer (some a)):
  Yl P ⟨d,.fieldAddr t x i,ty,p,af,g⟩ ρ s (.pointer (some (a.add off))):=by
 subst Z aa;exact Yl.fieldAddr V hi Y ab
section
variable {b:Frame}{n:Nat}
variable {x:Operand}{v:Value}{i:Nat}
theorem At.BS{id o:Nat}{ws:Lv_}{w:Value}(h:At E id o ws)(K:∀x o,E x=some o->s.E x=some o)(O:ws[j]?=some w):s.cell? ⟨id,o+j,none⟩=some w:=by
 obtain⟨f,e,fr,h1,U⟩:=h;unfold St.cell? St.get;rw[K _ _ h1];exact U j w O
theorem At.H5{id o:Nat}{ws:Lv_}(h:At E id o ws)(K:∀x o,E x=some o->s.E x=some o):∀j v,ws[j]?=some v->s.cell? (Addr.add ⟨id,o,none⟩ j)=some v:=λj v O=>by
 rw[DK rfl];exact h.BS K O
end
variable {m:Nat}{listed:Array Bool}
section
variable {b:Frame}{n fuel:Nat}
variable {x:Operand}{v:Value}{i:Nat}
end
variable {D:Nat->Bool}
section
variable {b:Frame}{n fuel i:Nat}{v:Value}
theorem AL.put(h:look L i=some v)(O:AL J Q b n ds ops k cs m D fuel listed (Az L (some i) v) s):AL J Q b n ds ops k cs m D fuel listed L s:=λT K=>
 O T ⟨K.size,λt w e=>by
  simp only[Az,look] at e
  split at e;rename_i U;subst U;cases e;exact K.at_ _ _ h
  .exact K.at_ _ _ e⟩
theorem O4{q:Prop} [Decidable q] (h:look L i=some (.bool (decide q)))(h1:q->AL J Q b n ds ops k cs m D fuel listed (Az L (some i) (.bool true)) s)(O:¬q->AL J Q b n ds ops k cs m D fuel listed (Az L (some i) (.bool false)) s):AL J Q b n ds ops k cs m D fuel listed L s:=by
 by_cases K:q;refine AL.put (i:=i) (v:=.bool true) ?_ (h1 K);rw[h,k8 K];refine AL.put (i:=i) (v:=.bool false) ?_ (O K);rw[h,kZ K]
end
structure Rp (α:Type) where
 n:Nat
 r:LH->Lv_->α->Prop
 Ag:∀{E E':LH}{ws:Lv_}{x:α},Le E E'->r E ws x->r E' ws x
 len:∀{E:LH}{ws:Lv_}{x:α},r E ws x->ws.length=n
 one:∀{E:LH}{ws:Lv_}{x:α},r E ws x->∀w∈ws,A3 w=true
def rK(kd:IntKind):Rp Int:=⟨1,λ_ ws x=>ws=[.int kd x],λ_ h=>h,λh=>by subst h;rfl,λh w hw=>by subst h;simp at hw;subst hw;rfl⟩
abbrev rI:Rp Int:=rK .i64
def rN(kd:IntKind):Rp Nat:=⟨1,λ_ ws x=>ws=[.int kd ((x:Nat):Int)],λ_ h=>h,λh=>by subst h;rfl,λh w hw=>by subst h;simp at hw;subst hw;rfl⟩
def rB:Rp Bool:=⟨1,λ_ ws x=>ws=[.bool x],λ_ h=>h,λh=>by subst h;rfl,λh w hw=>by subst h;simp at hw;subst hw;rfl⟩
def rP{α β:Type}(p:Rp α)(q:Rp β):Rp (α×β):=⟨p.n+q.n,λE ws x=>∃O U,ws=O++U/\p.r E O x.1/\q.r E U x.2,
 λhle ⟨a,b,h,h1,K⟩=>⟨a,b,h,p.Ag hle h1,q.Ag hle K⟩,λ⟨a,b,h,h1,K⟩=>by subst h;rw[mi,p.len h1,q.len K],
 λ⟨a,b,h,h1,K⟩ w hw=>by
  subst h
  rcases kM.1 hw with hw | hw
  .exact p.one h1 w hw
  .exact q.one K w hw⟩
def AK{α:Type}(p:Rp α)(E:LH)(a:Option Addr)(c:Nat)(xs:List α):Prop:=
 xs.length<=c/\((xs=[]/\∀ad:Addr,a=some ad->ad.spot=none∨c=0)∨∃bk off,a=some ⟨bk,off,none⟩/\∀(i:Nat) x,xs[i]?=some x->∃ws,p.r E ws x/\At E bk (off+i*p.n) ws)
variable{α:Type}{c:Nat}
theorem AK.Ag{p:Rp α}{E E':LH}{a:Option Addr}{xs:List α}(h:AK p E a c xs)(hle:Le E E'):AK p E' a c xs:=
 ⟨h.1,h.2.imp id λ⟨bk,off,h1,K⟩=>⟨bk,off,h1,λi x O=>let ⟨ws,U,V⟩:=K i x O;⟨ws,p.Ag hle U,V.Ag hle⟩⟩⟩
theorem AK.nil{p:Rp α}{E:LH}:AK p E none c []:=⟨lz _,.inl ⟨V,λ_ h=>by cases h⟩⟩
def rL{α:Type}(p:Rp α):Rp (List α):=⟨1,λE ws xs=>∃a c,ws=[.slice a xs.length c]/\AK p E a c xs,
 λhle ⟨a,c,h,h1⟩=>⟨a,c,h,h1.Ag hle⟩,λ⟨a,c,h,h1⟩=>by subst h;rfl,λ⟨a,c,h,h1⟩ w hw=>by subst h;simp at hw;subst hw;rfl⟩
def rA{α:Type}(k:Nat)(p:Rp α):Rp (List α):=⟨k*p.n,λE ws xs=>xs.length=k/\∃K:List (Lv_),ws=K.flatten/\K.length=k/\∀(i:Nat) x us,xs[i]?=some x->K[i]?=some us->p.r E us x,
 λhle ⟨h0,K,h,h1,O⟩=>⟨h0,K,h,h1,λi x us a b=>p.Ag hle (O i x us a b)⟩,
 λ{E ws xs} ⟨h0,K,h,h1,O⟩=>by
  subst h
  have:∀(K:List (Lv_)) (xs:List α),xs.length=K.length->(∀(i:Nat) x us,xs[i]?=some x->K[i]?=some us->p.r E us x)->K.flatten.length=K.length*p.n:=by
   intro K
   induction K with
   | nil=>intro xs _ _;simp
   | cons us K V=>
    intro xs U h
    cases xs with
    | nil=>simp at U
    | cons x xs=>
     rw[kT,mi,p.len (h 0 x us rfl rfl),V xs (by simpa using U) (λi y u a b=>h (i+1) y u a b),k0,ll,no]
  rw[this K xs (by omega) O,h1],
 λ{E ws xs} ⟨h0,K,h,h1,O⟩ w hw=>by
  subst h
  let⟨us,Y,hw⟩:=mt.1 hw
  let⟨i,hi⟩:=kQ.1 Y
  have Z:i<xs.length:=by rw[h0,← h1];exact(d8.1 hi).1
  exact p.one (O i _ us (f9 Z) hi) w hw⟩
def ix{α:Type}(xs:List α)(i:Int):Option α:=if 0<=i then xs[i.toNat]? else none
theorem FM{xs:List α}{i:Int}{x:α}(h:ix xs i=some x):∃m:Nat,i=m/\xs[m]?=some x:=by
 unfold ix at h;split at h;exact⟨i.toNat,by omega,h⟩;cases h
def AR(x:Int):Option Int:=if -9223372036854775808<=x/\x<=9223372036854775807 then some x else none
theorem Np{x y:Int}(h:AR x=some y):y=x/\ -9223372036854775808<=x/\x<=9223372036854775807:=by
 unfold AR at h;split at h;rename_i hb;exact⟨(d0 h).symm,hb⟩;cases h
variable{β:Type}
theorem bind_some{o:Option α}{f:α->Option β}{r:β}(h:o.bind f=some r):∃x,o=some x/\f x=some r:=by
 cases o with
 | none=>cases h
 | some x=>exact⟨x,rfl,h⟩
inductive BX (S A:Type) where
 | more (s:S)
 | done (a:A)
def iter{S A:Type}(body:S->Option (BX S A)):Nat->S->Option A
 | 0,_=>none
 | f+1,s=>match body s with
  | none=>none
  | some (.done a)=>some a
  | some (.more s')=>iter body f s'
theorem SG{S:Type}{body:S->Option (BX S β)}{f:Nat}{s:S}{a:β}(h:iter body (f+1) s=some a):∃st,body s=some st:=by
 simp only[iter] at h;cases hb:body s with
 | none=>rw[hb] at h;cases h
 | some st=>exact⟨st,rfl⟩
theorem Sj{S:Type}{body:S->Option (BX S β)}{f:Nat}{s:S}{a K:β}(h:iter body (f+1) s=some a)(hb:body s=some (.done K)):K=a:=by
 simp only[iter,hb] at h;exact d0 h
theorem Sn{S:Type}{body:S->Option (BX S β)}{f:Nat}{s s':S}{a:β}(h:iter body (f+1) s=some a)(hb:body s=some (.more s')):iter body f s'=some a:=by
 simp only[iter,hb] at h;exact h
abbrev Seg:=List (Nat×Obj)
def Ae(E H:LH)(S:List Seg):St:=mk E H S.flatten
def Ak(E H:LH)(S:List Seg):Prop:=Nd E H S.flatten
theorem Nd.mem{E H:LH}:∀{B:List (Nat×Obj)}{b:Nat}{o:Obj},Nd E H B->(b,o)∈B->∃i:Nat,B[i]?=some (b,o):=λ_ h=>kQ.1 h
theorem Nd.iff{E H:LH}:∀{B:List (Nat×Obj)},Nd E H B↔(B.map (·.1)).Nodup/\∀p∈B,E p.1=none/\H p.1=none
 | []=>by simp[Nd]
 | (b,o)::B=>by
  simp only[Nd,lG,mx,f7,forall_eq_or_imp,Nd.iff (B:=B),k3,not_exists,not_and]
  constructor;rintro⟨h1,K,O,U,V⟩;exact⟨⟨O,U⟩,⟨h1,K⟩,V⟩;rintro⟨⟨O,U⟩,⟨h1,K⟩,V⟩;exact⟨h1,K,O,U,V⟩
variable{A:List (Nat×Obj)}
theorem Nd.perm{E H:LH}{B:List (Nat×Obj)}(h:Nd E H B)(K:B.Perm A):Nd E H A:=by
 rw[Nd.iff] at h ⊢;exact⟨(K.map _).nodup_iff.1 h.1,λp O=>h.2 p (K.mem_iff.2 O)⟩
theorem Kc{E H:LH}{B:List (Nat×Obj)}(h:Nd E H B)(K:B.Perm A):AS B H=AS A H:=by
 funext x;by_cases O:∃p∈B,p.1=x;obtain⟨⟨b,o⟩,hm,rfl⟩:=O;let⟨i,hi⟩:=h.mem hm;let⟨j,U⟩:=(h.perm K).mem (K.mem_iff.1 hm);rw[Ho h hi,Ho (h.perm K) U]
 .have key:∀{C:List (Nat×Obj)},(∀p∈C,p.1≠x)->AS C H x=H x:=by
   intro C
   induction C with
   | nil=>intro _;rfl
   | cons p C V=>
    intro hC;obtain⟨c,u⟩:=p;have Y:x≠c:=λe=>hC (c,u) (by simp) e.symm;simp only[AS,d7 Y];exact V λp K=>hC p (kO _ K)
  rw[key λp K e=>O ⟨p,K,e⟩,key λp Z e=>O ⟨p,K.mem_iff.2 Z,e⟩]
theorem Ez{E H:LH}{B:List (Nat×Obj)}(h:Nd E H B)(K:B.Perm A):mk E H B=mk E H A:=by unfold mk;rw[Kc h K]
variable{seg seg':Seg}
theorem Db{S:List Seg}(h:S[j]?=some seg):S.flatten.Perm ((S.set j []).flatten++seg)/\(S.set j seg').flatten.Perm ((S.set j []).flatten++seg'):=by
 induction S generalizing j with
 | nil=>simp at h
 | cons x S K=>
  cases j with
  | zero=>
   simp at h;subst h;simp only[mB,kT,lh];exact⟨kK,kK⟩
  | succ j=>
   simp at h;let⟨h1,O⟩:=K h;simp only[mC,kT,lA];exact⟨h1.append_left x,O.append_left x⟩
theorem FJ{E H:LH}{S:List Seg}(K:Ak E H S)(h:S[j]?=some seg):Ae E H S=mk E H ((S.set j []).flatten++seg)/\Nd E H ((S.set j []).flatten++seg):=
 ⟨Ez K (Db (seg':=seg) h).1,Nd.perm K (Db (seg':=seg) h).1⟩
theorem Hu{E H:LH}{S:List Seg}(h:S[j]?=some seg)(K:Nd E H ((S.set j []).flatten++seg')):mk E H ((S.set j []).flatten++seg')=Ae E H (S.set j seg')/\Ak E H (S.set j seg'):=
 ⟨Ez K (Db h).2.symm,Nd.perm K (Db h).2.symm⟩
theorem IC(S:List Seg)(seg:Seg):(S++ [seg]).flatten=S.flatten++seg:=by simp
theorem F8{E H:LH}{S:List Seg}(K:Nd E H (S.flatten++seg)):mk E H (S.flatten++seg)=Ae E H (S++ [seg])/\Ak E H (S++ [seg]):=by
 unfold Ae Ak;rw[IC];exact⟨V,K⟩
theorem Dp{E H:LH}{S:List Seg}{i id:Nat}{o:Obj}(K:Ak E H S)(O:S[j]?=some seg)(hi:seg[i]?=some (id,o)):(Ae E H S).get id=some o:=by
 have hm:(id,o)∈S.flatten:=mt.2 ⟨seg,kL O,kL hi⟩;obtain⟨V,U⟩:=K.mem hm;exact Nn K U
variable{off:Nat}
theorem CB{E H:LH}{S:List Seg}{id:Nat}{c:Av_}{e:TypeId}{f:Nat×Nat}{v:Value}(K:Ak E H S)(O:S[j]?=some ((id,.cells c e f)::seg))(U:c[off]?=some v):(Ae E H S).cell? ⟨id,off,none⟩=some v:=by
 unfold St.cell?;rw[Dp (i:=0) K O rfl];exact U
theorem RZ{E H:LH}{S:List Seg}{id:Nat}{c:Av_}{e:TypeId}{f:Nat×Nat}{vs:Lv_}(K:Ak E H S)(O:S[j]?=some ((id,.cells c e f)::seg))(U:∀i v,vs[i]?=some v->c[off+i]?=some v):∀i v,vs[i]?=some v->(Ae E H S).cell? (Addr.add ⟨id,off,none⟩ i)=some v:=λi v hi=>by
 rw[DK rfl];exact CB K O (U i v hi)
def OL{α:Type}(e:TypeId)(p:Rp α)(E:LH)(a:Option Addr)(c:Nat)(seg:Seg)(xs:List α):Prop:=
 ∃K:List (Lv_),GS e p.n a xs.length c seg K.flatten/\K.length=xs.length/\∀(i:Nat) x ws,xs[i]?=some x->K[i]?=some ws->p.r E ws x
theorem OL.Ag{e:TypeId}{p:Rp α}{E E':LH}{a:Option Addr}{xs:List α}(h:OL e p E a c seg xs)(hle:Le E E'):OL e p E' a c seg xs:=
 let ⟨K,h1,O,U⟩:=h;⟨K,h1,O,λi x ws V hw=>p.Ag hle (U i x ws V hw)⟩
theorem OL.nil{e:TypeId}{p:Rp α}{E:LH}:OL e p E none 0 [] []:=⟨[],GS.nil,V,λi x ws K=>by simp at K⟩
theorem HZ{p:Rp α}{E:LH}{K:List (Lv_)}{xs:List α}(O:K.length=xs.length)(h:∀(i:Nat) x ws,xs[i]?=some x->K[i]?=some ws->p.r E ws x):∀ws∈K,ws.length=p.n:=λws hw=>by
 let⟨i,hi⟩:=kQ.1 hw
 have U:i<xs.length:=by rw[← O];exact(d8.1 hi).1
 exact p.len (h i _ ws (f9 U) hi)
theorem I0{α:Type}{n:Nat}:∀{K:List (List α)},(∀ws∈K,ws.length=n)->∀{i:Nat}{ws:List α},K[i]?=some ws->∀j w,ws[j]?=some w->K.flatten[i*n+j]?=some w
 | [],_,_,_,h,_,_,_=>by simp at h
 | us::K,U,0,ws,h,j,w,O=>by
  simp at h;subst h
  have:j<us.length:=(d8.1 O).1
  simp only[kT,mq,l1]
  rw[kN this];exact O
 | us::K,U,i+1,ws,h,j,w,O=>by
  simp at h
  have hu:us.length=n:=U us (by simp)
  simp only[kT]
  rw[kI (by rw[hu,ll];omega)]
  have e:(i+1)*n+j - us.length=i*n+j:=by rw[hu,ll];omega
  rw[e];exact I0 (λws hw=>U ws (kO _ hw)) h j w O
variable {ρ:Operand->Value}{z:Operand}{kd':IntKind}{m':Int}
variable{r:Int}{K:Array (Nat×Operand)}
section
variable {x:Operand}{v:Value}{m:Int}{a b:Nat}
theorem Ov{a:Nat}:IntKind.u64.wrap (a:Int)=((a%2^64:Nat):Int):=by
 simp only[IntKind.wrap,IntKind.bits,IntKind.signed];simp
theorem U0(K:ρ x=.int .u64 (a:Int))(O:ρ y=.int .u64 (b:Int)):Yl P ⟨d,.binOp .add t x y u,ty,p,af,g⟩ ρ s (.int .u64 (((a+b)%2^64:Nat):Int)):=by
 have h:=Yl.add (P:=P) (s:=s) (d:=d) (t:=t) (u:=u) (ty:=ty) (p:=p) (af:=af) (g:=g) K O;rw[show((a:Int)+(b:Int))=((a+b:Nat):Int) by omega,Ov] at h;exact h
theorem L5(K:ρ x=.int .u64 (a:Int))(O:ρ y=.int .u64 (b:Int)):Yl P ⟨d,.binOp .mul t x y u,ty,p,af,g⟩ ρ s (.int .u64 (((a*b)%2^64:Nat):Int)):=by
 have h:=Yl.mul (P:=P) (s:=s) (d:=d) (t:=t) (u:=u) (ty:=ty) (p:=p) (af:=af) (g:=g) K O;rw[show((a:Int)*(b:Int))=((a*b:Nat):Int) by rw[Int.natCast_mul],Ov] at h;exact h
theorem L4(K:ρ x=.int .u64 (a:Int))(O:ρ y=.int .u64 (b:Int)):Yl P ⟨d,.binOp .xor t x y u,ty,p,af,g⟩ ρ s (.int .u64 (((a ^^^ b)%2^64:Nat):Int)):=by
 have h:=Yl.xor (P:=P) (s:=s) (d:=d) (t:=t) (u:=u) (ty:=ty) (p:=p) (af:=af) (g:=g) K O;have e:(BitVec.ofInt IntKind.u64.bits (a:Int) ^^^ BitVec.ofInt IntKind.u64.bits (b:Int)).toNat=(a ^^^ b)%2^64:=by
  rw[Nat.xor_mod_two_pow];rw[nf,nf];show(BitVec.ofNat 64 a ^^^ BitVec.ofNat 64 b).toNat=_;rw[BitVec.toNat_xor,BitVec.toNat_ofNat,BitVec.toNat_ofNat]
 rw[e,Ov,Nat.mod_mod] at h;exact h
theorem Ud(K:ρ x=.int .u64 (a:Int))(O:ρ y=.int .u64 (b:Int))(h0:b≠0):Yl P ⟨d,.binOp .rem t x y u,ty,p,af,g⟩ ρ s (.int .u64 ((a%b:Nat):Int)):=by
 have h:=Yl.rem (P:=P) (s:=s) (d:=d) (t:=t) (u:=u) (ty:=ty) (p:=p) (af:=af) (g:=g) K O (by omega);rw[show(a:Int).tmod (b:Int)=((a%b:Nat):Int) from rfl] at h;exact h
theorem Jh(c:Nat)(K:ρ x=.int .u64 (a:Int))(O:ρ y=.int .u64 (c:Int))(U:c<=64):Yl P ⟨d,.binOp .shr t x y u,ty,p,af,g⟩ ρ s (.int .u64 ((a>>>c:Nat):Int)):=by
 have h:=Yl.shr (P:=P) (s:=s) (d:=d) (t:=t) (u:=u) (ty:=ty) (p:=p) (af:=af) (g:=g) K O (by omega);have e:min (c:Int).toNat IntKind.u64.bits=c:=by simp[IntKind.bits];omega
 rw[e,l9 _ (Int.pow_nonneg (by decide))] at h;have e2:(a:Int)/2^c=((a>>>c:Nat):Int):=by rw[mZ,Int.natCast_ediv];rfl
 rw[e2] at h;exact h
def Cd(m:Int):Nat:=(m%2^64).toNat
def HO(a:Nat):Int:=IntKind.i64.wrap (a:Int)
theorem Yl.Cd(K:P.underlying t=some (.int .i64))(hu:P.underlying u=some (.int .u64))(O:ρ x=iV m):Yl P ⟨d,.convert t u x,ty,p,af,g⟩ ρ s (.int .u64 ((Cd m:Nat):Int)):=by
 have h:=Du (P:=P) (s:=s) (d:=d) (ty:=ty) (p:=p) (af:=af) (g:=g) K hu O
 have e:IntKind.u64.wrap m=((Pal.Cd m:Nat):Int):=by
  unfold Pal.Cd;simp only[IntKind.wrap,IntKind.bits,IntKind.signed];simp;omega
 rw[e] at h;exact h
theorem Wt(K:P.underlying t=some (.int .u64))(hu:P.underlying u=some (.int .i64))(O:ρ x=.int .u64 (a:Int)):Yl P ⟨d,.convert t u x,ty,p,af,g⟩ ρ s (iV (HO a)):=
 Du (P:=P) (s:=s) (d:=d) (ty:=ty) (p:=p) (af:=af) (g:=g) K hu O
theorem BH(K:ρ x=iV m)(O:ρ y=iV m')(h:AR (m+m')=some r):Yl P ⟨d,.binOp .add t x y u,ty,p,af,g⟩ ρ s (iV r):=by
 obtain⟨rfl,hb⟩:=Np h;exact UB K O hb
theorem BP(K:ρ x=iV m)(O:ρ y=iV m')(h:AR (m - m')=some r):Yl P ⟨d,.binOp .sub t x y u,ty,p,af,g⟩ ρ s (iV r):=by
 obtain⟨rfl,hb⟩:=Np h;exact UD K O hb
theorem Cr(K:ρ x=.int kd m)(O:ρ y=.int kd m'):Yl P ⟨d,.binOp .neq t x y u,ty,p,af,g⟩ ρ s (.bool (decide (m≠m'))):=by
 have h:=Yl.neq (P:=P) (s:=s) (d:=d) (t:=t) (u:=u) (ty:=ty) (p:=p) (af:=af) (g:=g) K O;simpa using h
theorem Si:execOp ρ ⟨d,.build t K,ty,p,af,g⟩=(do pure (Next.value (← Instr.build t (K.map λ(j,x)=>(j,ρ x))))):=by
 simp only[execOp]
theorem Yl.build{z:Value}{vs:List (Nat×Value)}{places:Array (Nat×Nat)}{cells:Av_}(Y:zeroOf P t=some z)(Z:P.underlying t=some (.struct O))(aa:O.toList.mapM (λf=>(Bo P f.type).map λn=>(f.offset,n))=some places.toList)
  (ab:K.toList.map (λ(j,x)=>(j,ρ x))=vs) (ac:Instr.fill (places[·]?) z.cells vs=some cells):Yl P ⟨d,.build t K,ty,p,af,g⟩ ρ s (.agg cells):=by
 refine FG Si ?_;unfold Instr.build;refine AG (x:=zeroValue t) _ (HT Y ?_);refine AG _ _ (CE Z ?_);simp only;have key:∀(l:List Field) (acc:List (Nat×Nat)) {Q:List (Nat×Nat)->St->Prop}{X:Halt->St->Prop}(K:List (Nat×Nat)),l.mapM (λf=>(Bo P f.type).map λn=>(f.offset,n))=some K->Q (acc.reverse++K) s->lp P (List.mapM.loop (m:=Sem) (λf=>do pure (f.offset,← Go.sizeOf f.type)) l acc) s Q X:=by
  intro l
  induction l with
  | nil=>
   intro acc Q X K h k;simp at h;subst h;simp only[k2] at k;exact k
  | cons f l ae=>
   intro acc Q X K h k;simp only[mT,bind] at h;cases U:Bo P f.type with
   | none=>rw[U] at h;simp at h
   | some n=>
    rw[U] at h;simp only[mh,Option.bind_some] at h;obtain⟨ag,h1,V⟩:=bind_some h;simp at V;subst V;have:=ae ((f.offset,n)::acc) (Q:=Q) (X:=X) ag h1 (by simpa using k);simp only[List.mapM.loop];exact AG _ _ (AG (x:=Go.sizeOf f.type) _ (EH U this))
 have e:(K.map λ(j,x)=>(j,ρ x)).toList=vs:=by rw[← ab,Array.toList_map]
 refine AG _ _ ?_;rw[lY];refine AG (x:=List.mapM.loop (m:=Sem) (λf=>do pure (f.offset,← Go.sizeOf f.type)) O.toList []) (f:=λr=>pure r.toArray) (key O.toList [] places.toList aa ?_)
 simp only[List.reverse_nil,lh,lp,pure];rw[e,ac];exact⟨rfl,rfl⟩
end
variable {S:List Seg}
variable{todo:Li_}{d1:Tmp}{ats:Array TypeId}{g':On_}{fn:Func}{R:Value->LH->Seg->Prop}{args:Array Operand}{S':List Seg}
section
variable {b:Frame}{n:Nat}
variable {x:Operand}{v:Value}{i:Nat}
theorem JS.box(O:ops[i]?=some ⟨d,.box e x,ty,p,af,g⟩)(hw:AO L ops ⟨d,.box e x,ty,p,af,g⟩=some true)(U:Bt b n ⟨d,.box e x,ty,p,af,g⟩=true)(V:Ak E H S)(Y:ev L x=some v)
  (h:∀r,Ak E H (S++ [[(r,.cells v.cells e (0,0))]])->JL J Q b n (Az L d (.pointer (some ⟨r,0,none⟩))) ds (.inRegion ops rest::k) cs (Ae E H (S++ [[(r,.cells v.cells e (0,0))]]))):
  JL J Q b n L ds (.inRegion ops (i::rest)::k) cs (Ae E H S):=
 JL.box O hw U V Y λr K=>by rw[(F8 K).1];exact h r (F8 K).2
theorem JS.alloc{z:Value}(O:ops[i]?=some ⟨d,.alloc e,ty,p,af,g⟩)(hw:AO L ops ⟨d,.alloc e,ty,p,af,g⟩=some true)(U:Bt b n ⟨d,.alloc e,ty,p,af,g⟩=true)(V:Ak E H S)(Y:zeroOf P e=some z)
  (h:∀r,Ak E H (S++ [[(r,.cells z.cells e (0,0))]])->JL J Q b n (Az L d (.pointer (some ⟨r,0,none⟩))) ds (.inRegion ops rest::k) cs (Ae E H (S++ [[(r,.cells z.cells e (0,0))]]))):
  JL J Q b n L ds (.inRegion ops (i::rest)::k) cs (Ae E H S):=
 JL.alloc O hw U V Y λr K=>by rw[(F8 K).1];exact h r (F8 K).2
theorem JS.store{id:Nat}{c:Av_}(j:Nat)(U:ops[i]?=some ⟨d,.store t x y,ty,p,af,g⟩)(hw:AO L ops ⟨d,.store t x y,ty,p,af,g⟩=some true)(V:Bt b n ⟨d,.store t x y,ty,p,af,g⟩=true)(Y:Ak E H S)
  (Z:ev L x=some (.pointer (some ⟨id,off,none⟩))) (aa:ev L y=some v) (ab:Bo P t=some v.cells.size) (ac:∀u∈v.cells.toList,A3 u=true) (K:S[j]?=some [(id,.cells c e (0,0))]) (hle:off+v.cells.size<=c.size)
  (h:Ak E H (S.set j [(id,.cells (Bf c off v.cells.toList) e (0,0))])->JL J Q b n (Az L d undef) ds (.inRegion ops rest::k) cs (Ae E H (S.set j [(id,.cells (Bf c off v.cells.toList) e (0,0))]))):
  JL J Q b n L ds (.inRegion ops (i::rest)::k) cs (Ae E H S):=by
 let⟨h1,ae⟩:=FJ Y K;rw[h1];refine JL.store (S.set j []).flatten.length U hw V ae Z aa ab ac (c:=c) (e:=e) (by simp) hle λO=>?_;have ag:((S.set j []).flatten++ [(id,Obj.cells c e (0,0))]).set (S.set j []).flatten.length (id,.cells (Bf c off v.cells.toList) e (0,0))=(S.set j []).flatten++ [(id,.cells (Bf c off v.cells.toList) e (0,0))]:=Kq _ _ _ _;rw[ag] at O ⊢;let⟨ah,ai⟩:=Hu K O;rw[ah];exact h ai
theorem JS.drop(j:Nat)(V:Ak E H S)(K:S[j]?=some seg)(h:Ak E H (S.set j [])->JL J Q b n L ds todo cs (Ae E H (S.set j []))):JL J Q b n L ds todo cs (Ae E H S):=by
 let⟨h1,O⟩:=FJ V K;rw[h1];have Y:Nd E H ((S.set j []).flatten++ []):=by rw[k2];exact HU.Nd.left O
 let⟨U,Z⟩:=Hu (seg':=[]) K Y;refine JL.drop (S.set j []).flatten (λq aa=>kQ.1 (lF _ aa)) O ?_;have ab:(S.set j []).flatten++ []=(S.set j []).flatten:=k2 _;rw[ab] at U;rw[U];exact h Z
theorem A8{id:Nat}{c:Av_}{f:Nat×Nat}(j:Nat)(O:Ak E H S)(U:S[j]?=some [(id,.cells c e f)])
  (h:∀E',Le E E'->At E' id 0 c.toList->Ak E' H (S.set j [])->JL J Q b n L ds todo cs (Ae E' H (S.set j []))):JL J Q b n L ds todo cs (Ae E H S):=by
 obtain⟨h1,V⟩:=FJ O U;rw[h1];have Y:((S.set j []).flatten++ [(id,Obj.cells c e f)])[(S.set j []).flatten.length]?=some (id,Obj.cells c e f):=by simp
 refine JL.freeze (S.set j []).flatten.length V Y λE' hle Z K=>?_;have aa:((S.set j []).flatten++ [(id,Obj.cells c e f)]).eraseIdx (S.set j []).flatten.length=(S.set j []).flatten:=by rw[mc (kG _)];simp
 rw[aa] at K ⊢;exact h E' hle ⟨_,_,_,Z,λi w hi=>by simpa using hi⟩ K
theorem CP{pp:Rp α}{a:Option Addr}{xs:List α}(j:Nat)(O:OL e pp E a c seg xs)(ac:Ak E H S)(ae:S[j]?=some seg)
  (h:∀E',Le E E'->AK pp E' a c xs->Ak E' H (S.set j [])->JL J Q b n L ds todo cs (Ae E' H (S.set j []))):JL J Q b n L ds todo cs (Ae E H S):=by
 obtain⟨Y,O,Z,aa⟩:=O;have ag:∀ad:Addr,a=some ad->ad.spot=none:=λad K=>by
  rcases O with⟨h1,_⟩ | ⟨bk,f,h1,_⟩;rw[h1] at K;cases K;rw[h1] at K;cases K;rfl
 let⟨h1,ah⟩:=FJ ac ae;rw[h1];refine Ry O ah λE' hle ai aj=>h E' hle ?_ aj;obtain⟨ak,al,U,am,ar,V⟩:=ai;obtain⟨rfl,-,rfl⟩:a=ak/\xs.length=xs.length/\c=al:=by
  simp only[Value.slice.injEq] at U;exact⟨U.1,rfl,U.2.2⟩
 refine⟨am,?_⟩;rcases V with V | ⟨bk,off,f,an,fr,ao,g2,ap⟩;exact .inl ⟨lN V,λad K=>.inl (ag ad K)⟩
 .refine .inr ⟨bk,off,ao,λi x ab=>?_⟩;have aq:i<Y.length:=by rw[Z];exact(d8.1 ab).1
  have hw:=f9 aq;refine⟨Y[i],pp.Ag hle (aa i x _ ab hw),f,an,fr,g2,λm w hm=>?_⟩;rw[mf];exact ap _ w (I0 (HZ Z aa) hw m w hm)
theorem Ru{pp:Rp α}{O:List (Lv_)}{xs:List α}{x:α}{ws:Lv_}(U:O.length=xs.length)(h:∀(i:Nat) x ws,xs[i]?=some x->O[i]?=some ws->pp.r E ws x)(V:pp.r E ws x):
  ∀(i:Nat) y us,(xs++ [x])[i]?=some y->(O++ [ws])[i]?=some us->pp.r E us y:=by
 intro i y us K hu;rcases kC i xs.length with hi | hi;rw[kN hi] at K;rw[kN (by omega)] at hu;exact h i y us K hu
 .rw [kI hi] at K;rw[kI (by omega),U] at hu;cases hm:i - xs.length with
  | zero=>rw[hm] at K hu;simp at K hu;subst K hu;exact V
  | succ m=>rw[hm] at K;simp at K
theorem R2{pp:Rp α}{t1 t2:TypeId}{id:Nat}{a:Option Addr}{xs:List α}{xv:α}{ac:Nat}{V:TypeId}{Y:String}{Z:Ae_}{z:Value}(j:Nat)
  (ah:ops[i]?=some ⟨some d1,.buildSlice t2 1 #[(0,y)],V,Y,Z,g'⟩) (hw:AO L ops ⟨some d1,.buildSlice t2 1 #[(0,y)],V,Y,Z,g'⟩=some true) (ai:Bt b n ⟨some d1,.buildSlice t2 1 #[(0,y)],V,Y,Z,g'⟩=true)
  (aj:ops[ac]?=some ⟨d,.call ⟨.builtin .append,#[x,.tmp d1],ats⟩,ty,p,af,g⟩) (ak:∀w,AO (Az L (some d1) w) ops ⟨d,.call ⟨.builtin .append,#[x,.tmp d1],ats⟩,ty,p,af,g⟩=some true) (al:Bt b n ⟨d,.call ⟨.builtin .append,#[x,.tmp d1],ats⟩,ty,p,af,g⟩=true)
  (am:∀w,ev (Az L (some d1) w) x=some (.slice a xs.length c)) (an:ev L y=some v) (ao:ats[0]?=some t) (ap:ats[1]?=some t1) (aq:P.underlying t=some (.slice e)) (ar:P.underlying t1=some (.slice e)) (au:P.underlying t2=some (.slice e)) (av:Bo P e=some pp.n) (hb:GJ P e=some id) (aw:zeroOf P e=some z) (ay:z.cells.size=pp.n)
  (az:0<id) (aA:id<=127) (aB:0<pp.n) (aC:pp.n<=64) (aD:xs.length+1<=2^40) (aa:OL e pp E a c seg xs) (ab:pp.r E v.cells.toList xv) (aE:Ak E H S) (ae:S[j]?=some seg)
  (h:∀w K O seg',OL e pp E K O seg' (xs++ [xv])->Ak E H (S.set j seg')->JL J Q b n (Az (Az L (some d1) w) d (.slice K (xs++ [xv]).length O)) ds (.inRegion ops rest::k) cs (Ae E H (S.set j seg'))):
  JL J Q b n L ds (.inRegion ops (i::ac::rest)::k) cs (Ae E H S):=by
 obtain⟨aF,aa,ag,aG⟩:=aa;let⟨h1,aH⟩:=FJ aE ae;rw[h1];have aI:v.cells.size=pp.n:=by simpa using pp.len ab
 refine RR ah hw ai aj ak al am an ao ap aq ar au av hb aw ay az aA aI aB aC aD (pp.one ab) aa aH λw K O aJ aK aL=>?_;let⟨aM,aN⟩:=Hu ae aL;rw[aM];have hlen:(xs++ [xv]).length=xs.length+1:=by simp
 have:=h w K O aJ ⟨aF++ [v.cells.toList],by rw[hlen,List.flatten_append];simpa using aK,by simp[ag],Ru ag aG ab⟩ aN;rw[hlen] at this;exact this
theorem DL{pp:Rp α}{a:Option Addr}{xs:List α}{xv:α}{m:Int}(O:AK pp E a c xs)(hm:ix xs m=some xv)
  (U:ops[i]?=some ⟨d,.indexAddr t x y,ty,p,af,g⟩) (hw:AO L ops ⟨d,.indexAddr t x y,ty,p,af,g⟩=some true) (V:Bt b n ⟨d,.indexAddr t x y,ty,p,af,g⟩=true)
  (Y:ev L x=some (.slice a xs.length c)) (Z:ev L y=some (.int kd m)) (aa:P.underlying t=some (.slice e)) (ab:Bo P e=some pp.n)
  (h:∀bk o ws,pp.r E ws xv->At E bk o ws->JL J Q b n (Az L d (.pointer (some ⟨bk,o,none⟩))) ds (.inRegion ops rest::k) cs (Ae E H S)):
  JL J Q b n L ds (.inRegion ops (i::rest)::k) cs (Ae E H S):=by
 obtain⟨m,rfl,hm⟩:=FM hm;have ac:m<xs.length:=(d8.1 hm).1;obtain⟨ai,⟨rfl,_⟩ | ⟨bk,off,rfl,ae⟩⟩:=O;simp at ac
 let⟨ws,ag,ah⟩:=ae m xv hm;refine Ac (v:=.pointer (some ⟨bk,off+m*pp.n,none⟩)) U hw V (λρ K=>?_) (h bk _ ws ag ah);have:=LA (P:=P) (s:=Ae E H S) (d:=d) (ty:=ty) (p:=p) (af:=af) (g:=g) aa ab (K x _ Y) (K y _ Z) ⟨by omega,by omega⟩;rw[DK rfl] at this;simpa using this
theorem At.AN{id o:Nat}{ws:Lv_}{w:Value}(h:At E id o ws)(K:ws[j]?=some w):(Ae E H S).cell? ⟨id,o+j,none⟩=some w:=h.cell K
theorem At.Cl{id o:Nat}{ws:Lv_}(h:At E id o ws):∀j v,ws[j]?=some v->(Ae E H S).cell? (Addr.add ⟨id,o,none⟩ j)=some v:=h.cells
theorem Bj(I:Env->St->Prop){c:Code}(K:∀L s,I L s->JL J Q b n L ds todo cs s)(h:(∀L s,I L s->JL J Q b n L ds todo cs s)->JL J Q b n L ds (.code c::todo) cs s):JL J Q b n L ds (.code c::todo) cs s:=h K
theorem Dl{K:List Nat}(l:List Nat)(I:Env->St->Prop)(O:∀L s,I L s->JL J Q b n L ds (.inRegion ops l::todo) cs s)(h:(∀L s,I L s->JL J Q b n L ds (.inRegion ops l::todo) cs s)->JL J Q b n L ds (.inRegion ops K::todo) cs s):JL J Q b n L ds (.inRegion ops K::todo) cs s:=h O
theorem CG{A:Type}{c:Code}{body:β->Option (BX β A)}{f:Nat}{O:β}{a:A}(U:iter body f O=some a)(I:Env->St->β->Prop)(h0:I L s O)
  (round:∀L s x,I L s x->(∀V,body x=some (.done V)->V=a)->(∃st,body x=some st)->(∀L' s' x',I L' s' x'->body x=some (.more x')->JL J Q b n L' ds (.inLoop c::k) cs s')->JL J Q b n L ds (.code c:: .inLoop c::k) cs s):
  JL J Q b n L ds (.code (.loop c)::k) cs s:=by
 refine HV ?_
 induction f generalizing L s O with
 | zero=>cases U
 | succ f Y=>
  refine round L s O h0 (λV h=>Sj U h) (SG U) λL' s' x' Z hb=>JL.again (Y (Sn U hb) Z)
def Ax(J:Judge P)(f:FuncId)(args:Lv_)(E:LH)(B:Seg)(R:Value->LH->Seg->Prop):Prop:=
 ∀H,Nd E H B->CZ J f args.toArray (mk E H B) (λv s'=>∃E' B',Le E E'/\R v E' B'/\Nd E' H B'/\s'=mk E' H B')
theorem Ax.enter{f:FuncId}{c:Code}{vs:Lv_}{B:Seg}(O:P.funcs[f]?=some fn)(hb:fn.body=some c)(U:vs.length<=fn.ntmps)
  (h:∀(Q:Gs_) (K:Frame) (cs:Lf_) (H:LH),Ak E H [B]->(∀v E' S' B',Le E E'->S'.flatten=B'->R v E' B'->Ak E' H S'->J.ok Q (G (K.finish v) cs) (Ae E' H S'))->JL J Q (base f) fn.ntmps (Gh 0 vs) [] [.code c] (K::cs) (Ae E H [B])):Ax J f vs E B R:=λH V=>
 CZ.enter O hb U λQ K cs Y=>by
  have Z:mk E H B=Ae E H [B]:=by unfold Ae;simp
  rw[Z];exact h Q K cs H (by unfold Ak;simpa using V) λv E' S' B' hle aa ab ac=>by
   subst aa;exact Y v _ ⟨E',S'.flatten,hle,ab,ac,rfl⟩
theorem Ax.Ag{f:FuncId}{vs:Lv_}{B:Seg}{K:Value->LH->Seg->Prop}(h:Ax J f vs E B R)(O:∀v E' B',Le E E'->R v E' B'->K v E' B'):Ax J f vs E B K:=λH U=>
 (h H U).Ag λv s' ⟨E',B',h1,V,Y,Z⟩=>⟨E',B',h1,O v E' B' h1 V,Y,Z⟩
theorem EI{H:LH}:∀{A B:List (Nat×Obj)},AS (A++B) H=AS A (AS B H)
 | [],_=>rfl
 | (c,o)::A,B=>by
  funext x
  simp only[lj,AS]
  split;rfl;rw[EI]
theorem Kg{H:LH}{x:Nat}:∀{B:List (Nat×Obj)},(∀p∈B,p.1≠x)->AS B H x=H x
 | [],_=>rfl
 | (c,u)::B,K=>by
  have O:x≠c:=λe=>K (c,u) (by simp) e.symm
  simp only[AS,d7 O]
  exact Kg λp U=>K p (kO _ U)
theorem Nd.front{B:List (Nat×Obj)}(h:Nd E H (A++B)):Nd E (AS B H) A:=by
 rw[Nd.iff] at h ⊢;obtain⟨h1,O⟩:=h;rw[k7,ls] at h1;refine⟨h1.1,λq K=>⟨(O q (lF _ K)).1,?_⟩⟩;rw[Kg λr U e=>h1.2.2 q.1 (mw K) r.1 (mw U) e.symm];exact(O q (lF _ K)).2
theorem Nd.glue{B:List (Nat×Obj)}(h:Nd E (AS B H) A)(U:Nd E H B):Nd E H (A++B):=by
 have V:=U;rw[Nd.iff] at h U ⊢;rw[k7,ls];have key:∀q∈A,∀r∈B,q.1≠r.1:=λq K r O e=>by
  have:=(h.2 q K).2;rw[e] at this;let⟨i,hi⟩:=V.mem (b:=r.1) (o:=r.2) O;rw[Ho V hi] at this;cases this
 refine⟨⟨h.1,U.1,λx Y y Z e=>?_⟩,λq K=>?_⟩;obtain⟨q,K,rfl⟩:=k3.1 Y;obtain⟨r,O,rfl⟩:=k3.1 Z;exact key q K r O e
 .rcases kM.1 K with K | K
  .refine⟨(h.2 q K).1,?_⟩;have:=(h.2 q K).2
   rwa[Kg λr O e=>key q K r O e.symm] at this
  .exact U.2 q K
theorem DI{f:FuncId}{vs:Lv_}(j:Nat)
  (aa:Ax J f vs E seg R) (ab:ops[i]?=some ⟨d,.call ⟨.value (.func f),args,ats⟩,ty,p,af,g⟩) (hw:AO L ops ⟨d,.call ⟨.value (.func f),args,ats⟩,ty,p,af,g⟩=some true) (ac:((b.kind != .early)&&A5 n d)=true) (hb:Dd P f=true)
  (ae:evs L args.toList=some vs) (K:Ak E H S) (O:S[j]?=some seg) (ag:∀v E' seg',Le E E'->R v E' seg'->Ak E' H (S.set j seg')->JL J Q b n (Az L d v) ds (.inRegion ops rest::k) cs (Ae E' H (S.set j seg'))):
  JL J Q b n L ds (.inRegion ops (i::rest)::k) cs (Ae E H S):=by
 have U:S.flatten.Perm (seg++(S.set j []).flatten):=(Db (seg':=seg) O).1.trans kK;have V:Nd E H (seg++(S.set j []).flatten):=Nd.perm K U;have ah:Ae E H S=mk E (AS (S.set j []).flatten H) seg:=by
  rw[show Ae E H S=mk E H S.flatten from rfl,Ez K U];unfold mk;rw[EI]
 rw[ah];refine TX ab hw ac hb ae (aa _ (Nd.front V)) ?_;rintro v s' ⟨E',B',hle,ai,aj,rfl⟩;have e2:mk E' (AS (S.set j []).flatten H) B'=mk E' H (B'++(S.set j []).flatten):=by unfold mk;rw[EI]
 have ak:Nd E H (S.set j []).flatten:=by
  have:=V;rw[Nd.iff] at this ⊢;rw[k7,ls] at this;exact⟨this.1.2.1,λq al=>this.2 q (lB _ al)⟩
 refine Qm rfl λ⟨w,am⟩=>?_;have an:Nd E' H (S.set j []).flatten:=ak.grow λx ao=>by
  have h0:=am.d x ao;have h1:AS B' (AS (S.set j []).flatten H) x=none:=h0;exact(GX h1).1
 have Y:Nd E' H (B'++(S.set j []).flatten):=Nd.glue aj an;rw[e2];have Z:(B'++(S.set j []).flatten).Perm (S.set j B').flatten:=kK.trans (Db O).2.symm;rw[Ez Y Z];exact ag v E' B' hle ai (Nd.perm Y Z)
theorem JS.call{f:FuncId}{vs:Lv_}
  (U:Ax J f vs E [] R) (V:ops[i]?=some ⟨d,.call ⟨.value (.func f),args,ats⟩,ty,p,af,g⟩) (hw:AO L ops ⟨d,.call ⟨.value (.func f),args,ats⟩,ty,p,af,g⟩=some true) (Y:((b.kind != .early)&&A5 n d)=true) (hb:Dd P f=true)
  (Z:evs L args.toList=some vs) (K:Ak E H S) (aa:∀v E' seg',Le E E'->R v E' seg'->Ak E' H (S++ [seg'])->JL J Q b n (Az L d v) ds (.inRegion ops rest::k) cs (Ae E' H (S++ [seg']))):
  JL J Q b n L ds (.inRegion ops (i::rest)::k) cs (Ae E H S):=by
 have ab:Ae E H S=Ae E H (S++ [[]]):=by unfold Ae;simp
 rw[ab];refine DI S.length U V hw Y hb Z (by unfold Ak at K ⊢;rw[IC,k2];exact K) (by simp) λv E' seg' hle ac O=>?_;have e2:(S++ [[]]).set S.length seg'=S++ [seg']:=Kq _ _ _ _;rw[e2] at O ⊢;exact aa v E' seg' hle ac O
theorem EJ(h0:S'.flatten=S.flatten)(K:Ak E H S)(h:Ak E H S'->JL J Q b n L ds todo cs (Ae E H S')):JL J Q b n L ds todo cs (Ae E H S):=by
 unfold Ae Ak at*;rw[h0] at h;exact h K
end
def Ld(P:Program)(t:TypeId)(a:Addr)(s:St)(v:Value):Prop:=lp P (loadVar t a) s (λu s'=>u=v/\s'=s) (λ_ _=>False)
theorem Ld.one{P:Program}{t:TypeId}{a:Addr}{s:St}{v:Value}(K:DZ P t=some false)(h:s.cell? a=some v):Ld P t a s v:=OU K h ⟨V,V⟩
theorem Ld.many{P:Program}{t:TypeId}{a:Addr}{s:St}{vs:Lv_}(K:DZ P t=some true)(O:Bo P t=some vs.length)(h:∀j v,vs[j]?=some v->s.cell? (a.add j)=some v):Ld P t a s (.agg vs.toArray):=OT K O h ⟨V,V⟩
def RV(P:Program)(L:Env)(s:St):List ResultVar->Lv_->Prop
 | [],[]=>True
 | .tmp t::rs,v::vs=>look L t=some v/\RV P L s rs vs
 | .cell a t::rs,v::vs=>(∃ad,look L a=some (.pointer (some ad))/\Ld P t ad s v)/\RV P L s rs vs
 | _,_=>False
def Mb:Lv_->Value
 | [v]=>v
 | vs=>.tuple vs.toArray
theorem RY(vs:Lv_):(if h:vs.toArray.size=1 then vs.toArray[0] else Value.tuple vs.toArray)=Mb vs:=by
 match vs with
 | []=>rfl
 | [v]=>rfl
 | a::b::c=>simp[Mb]
theorem Ay.list{P:Program}{f:FuncId}{n:Nat}{L:Env}{s:St}{rs:List ResultVar}{vs:Lv_}(V:P.funcs[f]?=some fn)(Y:fn.results.toList=rs)(h:RV P L s rs vs):Ay P f L n s (Mb vs):=by
 refine⟨fn,V,λT O=>?_⟩;unfold results;rw[lY,Y];have key:∀(rs:List ResultVar) (acc vs:Lv_) {Q:Lv_->St->Prop}{X:Halt->St->Prop},RV P L s rs vs->Q (acc.reverse++vs) s->lp P (List.mapM.loop (m:=Sem) (λr=>match r with
   | .tmp t=>pure (T.getD t undef)
   | .cell a t=>do loadVar t (← asAddr (T.getD a undef))) rs acc) s Q X:=by
  intro rs
  induction rs with
  | nil=>
   intro acc vs Q X h k;cases vs with
   | nil=>simp only[k2] at k;exact k
   | cons v vs=>cases h
  | cons r rs U=>
   intro acc vs Q X h k;cases vs with
   | nil=>cases r<;>cases h
   | cons v vs=>
    cases r with
    | tmp t=>
     obtain⟨h1,K⟩:=h;have:=O.at_ t v h1;simp only[List.mapM.loop];rw[this];exact U (v::acc) vs K (by simpa using k)
    | cell a t=>
     obtain⟨⟨ad,h1,Z⟩,K⟩:=h;have:=O.at_ a _ h1;simp only[List.mapM.loop];rw[this];refine AG _ _ (CL _ (show lp P (loadVar t ad) s _ _ from Z) ?_ (λ_ _ h=>h.elim));rintro u s' ⟨rfl,rfl⟩;exact U (u::acc) vs K (by simpa using k)
 refine AG _ _ (AG (x:=List.mapM.loop (m:=Sem) _ rs []) (f:=λr=>pure r.toArray) ?_);refine key rs [] vs h ?_;simp only[List.reverse_nil,lh,lp,pure];exact⟨RY vs,trivial⟩
section
variable {g:Goroutine}
theorem F9(j:Nat)(Y:Ak E H S)(U:S[j]?=some seg)(h:Ak E H (S.set j [])->J.ok Q g (Ae E H (S.set j []))):J.ok Q g (Ae E H S):=by
 let⟨h1,K⟩:=FJ Y U;have Z:Nd E H ((S.set j []).flatten++ []):=by rw[k2];exact HU.Nd.left K
 let⟨ae,aa⟩:=Hu (seg':=[]) U Z;refine J.ghost (s₀:=Ae E H (S.set j [])) ⟨λ_ _ h=>h,λx o ab=>?_,λ_ _ h=>.inl h,rfl⟩ (h aa);have V:AS (S.set j []).flatten H x=some o:=ab;show(Ae E H S).H x=some o;rw[h1];show AS ((S.set j []).flatten++seg) H x=some o;rw[show AS ((S.set j []).flatten++seg) H=AS (seg++(S.set j []).flatten) H from Kc K kK,EI];by_cases hm:∃p∈seg,p.1=x;exfalso;obtain⟨p,O,e⟩:=hm;have ac:=Nd.front (Nd.perm K kK);have:=((Nd.iff.1 ac).2 p O).2;rw[e,V] at this;cases this;rw[Kg λp O e=>hm ⟨p,O,e⟩];exact V
end
section
variable {b:Frame}{n:Nat}
variable {x:Operand}{v:Value}{i:Nat}
theorem Pe{ρ:Operand->Value}{id:Nat}:execOp ρ ⟨d,.buildSlice t id K,ty,p,af,g⟩=(do pure (Next.value (← Instr.buildSlice t id (K.map λ(j,x)=>(j,ρ x))))):=by
 simp only[execOp]
theorem RO(v:Av_)(off:Nat)(c:Av_):v.zipIdx.foldl (λcs (x,j)=>cs.setIfInBounds (off+j) x) c=Bf c off v.toList:=by
 rw[← Array.foldl_toList,Array.toList_zipIdx];have key:∀(l:Lv_) (st:Nat) (c:Av_),List.foldl (λcs (p:Value×Nat)=>cs.setIfInBounds (off+p.2) p.1) c (l.zipIdx st)=Bf c (off+st) l:=by
  intro l
  induction l with
  | nil=>intro st c;rfl
  | cons x l K=>intro st c;simp only[m4,mg,Bf];rw[K];rfl
 exact key v.toList 0 c
def Jo(place:Nat->Option (Nat×Nat))(cells:Av_):List (Nat×Value)->Option (Av_)
 | []=>some cells
 | (i,v)::rest=>match place i with
  | none=>none
  | some (off,size)=>if v.cells.size=size/\off+v.cells.size<=cells.size then Jo place (Bf cells off v.cells.toList) rest else none
theorem fill_eq{place:Nat->Option (Nat×Nat)}:∀{vs:List (Nat×Value)}{cells:Av_},Instr.fill place cells vs=Jo place cells vs
 | [],_=>rfl
 | (i,v)::rest,cells=>by
  simp only[Instr.fill,Jo]
  cases place i with
  | none=>rfl
  | some q=>
   obtain⟨off,size⟩:=q
   simp only
   by_cases h:v.cells.size=size/\off+v.cells.size<=cells.size;rw[d5 h,d7 (by simp only[lu,k9,ne_eq];omega),fill_eq,RO];rw[d7 h,d5 (by simp only[lu,k9,ne_eq];omega)]
theorem PV{n:Nat}:∀(vs:Lv_) (st:Nat) (cells:Av_),(∀v∈vs,v.cells.size=n)->cells.size=(st+vs.length)*n->
  ∃O,Jo (λi=>some (i*n,n)) cells ((vs.zipIdx st).map λq=>(q.2,q.1))=some O/\O.toList=cells.toList.take (st*n)++(vs.map (·.cells.toList)).flatten
 | [],st,cells,_,K=>⟨cells,rfl,by simp only[List.length_nil,k6] at K;simp[← K,ml]⟩
 | v::vs,st,cells,U,K=>by
  have h1:=U v (by simp)
  have hle:st*n+n<=cells.size:=by
   rw[K,k0];have:(st+1)*n<=(st+(vs.length+1))*n:=la _ (by omega);rw[ll] at this;exact this
  obtain⟨V,Y,Z⟩:=PV vs (st+1) (Bf cells (st*n) v.cells.toList) (λu hu=>U u (kO _ hu)) (by rw[Nk,K,k0];congr 1;omega);refine⟨V,?_,?_⟩;simp only[m4,lG,Jo];rw[d5 ⟨h1,by omega⟩];exact Y;rw[Z,ll];have:=ON cells (st*n) v.cells.toList (by simp[h1];omega);rw[show v.cells.toList.length=n by simp[h1]] at this;rw[this];simp
def Io{α:Type}(pp:Rp α)(E:LH):List α->Lv_->Prop
 | [],[]=>True
 | x::xs,v::vs=>pp.r E v.cells.toList x/\Io pp E xs vs
 | _,_=>False
theorem Io.at{E:LH}{α:Type}{pp:Rp α}:∀{xs:List α}{vs:Lv_},Io pp E xs vs->∀(i:Nat) x v,xs[i]?=some x->vs[i]?=some v->pp.r E v.cells.toList x
 | [],_,_,_,_,_,h,_=>by simp at h
 | _::_,[],h,_,_,_,_,_=>h.elim
 | x::xs,v::vs,h,0,y,u,K,hu=>by simp at K hu;subst K hu;exact h.1
 | x::xs,v::vs,h,i+1,y,u,K,hu=>Io.at h.2 i y u (by simpa using K) (by simpa using hu)
theorem N1{E0:LH}{ρ:Operand->Value}{K:Next->St->Prop}(aj:Eg L ρ){pp:Rp α}{id:Nat}{Y:Array (Nat×Operand)}(vs:Lv_){z:Value}(xs:List α)
  (ak:P.underlying t=some (.slice e)) (al:Bo P e=some pp.n) (am:zeroOf P e=some z) (an:decide (0<id*pp.n/\id*pp.n<=2^24)=true)
  (ao:Y.toList.mapM (λq=>(ev L q.2).map λv=>(q.1,v))=some ((vs.zipIdx 0).map λq=>(q.2,q.1)))
  (U:vs.length=id) (V:xs.length=id) (ap:Io pp E0 xs vs) (aq:Ak E H S)
  (h:∀r seg,OL e pp E0 (some ⟨r,0,none⟩) id seg xs->Ak E H (S++ [seg])->K (.value (.slice (some ⟨r,0,none⟩) xs.length id)) (Ae E H (S++ [seg]))):
  lp P (execOp ρ ⟨d,.buildSlice t id Y,ty,p,af,g⟩) (Ae E H S) K (λ_ _=>False):=by
 have ac:=ap.at;have ar:(Y.map λ(j,x)=>(j,ρ x)).toList=(vs.zipIdx 0).map λq=>(q.2,q.1):=by
  have key:∀(l:List (Nat×Operand)) (vs:List (Nat×Value)),l.mapM (λq=>(ev L q.2).map λv=>(q.1,v))=some vs->l.map (λ(j,x)=>(j,ρ x))=vs:=by
   intro l
   induction l with
   | nil=>intro vs h;simp at h;subst h;rfl
   | cons q l Z=>
    intro vs h;simp only[mT,bind] at h;cases aa:ev L q.2 with
    | none=>rw[aa] at h;simp at h
    | some w=>
     rw[aa] at h;simp only[mh,Option.bind_some] at h;let⟨au,h1,ae⟩:=bind_some h;simp at ae;subst ae;simp[Z au h1,aj _ _ aa]
  rw[Array.toList_map];exact key _ _ ao
 have ag:∀v∈vs,v.cells.size=pp.n:=λv O=>by
  let⟨i,hi⟩:=kQ.1 O;have av:i<xs.length:=by rw[V,← U];exact(d8.1 hi).1
  simpa using pp.len (ac i _ v (f9 av) hi)
 rw[Pe];refine AG _ _ ?_;unfold Instr.buildSlice;refine AG _ _ (CE ak ?_);refine AG _ _ (EH al ?_);have az:=of_decide_eq_true an;rw[d7 (by omega),d7 (by omega)];refine AG (x:=zeroValue e) _ (HT am ?_);rw[Ka,ar];obtain⟨cells,aw,ab⟩:=PV vs 0 ((Array.range (id*pp.n)).map (z.cells[· % z.cells.size]!)) ag (by simp[U]);simp only[fill_eq,aw];simp only[mq,List.take_zero,lh] at ab;refine AG _ _ (I1 aq λr ah=>?_);rw[(F8 ah).1];have ai:cells.size=id*pp.n:=by
  have:cells.toList.length=id*pp.n:=by
   rw[ab];have:∀(vs:Lv_),(∀v∈vs,v.cells.size=pp.n)->(vs.map (·.cells.toList)).flatten.length=vs.length*pp.n:=by
    intro vs
    induction vs with
    | nil=>intro _;simp
    | cons v vs Z=>intro h;rw[lG,kT,mi,Z λw hw=>h w (kO _ hw),k0,ll,no];simp[h v (by simp)]
   rw[this vs ag,U]
  simpa using this
 have:=h r [(r,.cells cells e (0,0))] ⟨vs.map (·.cells.toList),.inr ⟨r,cells,rfl,rfl,ai,by omega,by rw[← ab,ml (by simp[ai,V])]⟩,by simp[U,V],λi x ws ay hw=>by
  rw[lI] at hw
  cases O:vs[i]? with
  | none=>rw[O] at hw;cases hw
  | some v=>rw[O] at hw;cases hw;exact ac i x v ay O⟩ (F8 ah).2
 rw[V] at this;exact this
theorem H8{pp:Rp α}{id:Nat}(vs:Lv_){z:Value}(xs:List α)
  (O:ops[i]?=some ⟨d,.buildSlice t id K,ty,p,af,g⟩) (hw:AO L ops ⟨d,.buildSlice t id K,ty,p,af,g⟩=some true) (U:Bt b n ⟨d,.buildSlice t id K,ty,p,af,g⟩=true)
  (V:P.underlying t=some (.slice e)) (Y:Bo P e=some pp.n) (Z:zeroOf P e=some z) (aa:decide (0<id*pp.n/\id*pp.n<=2^24)=true)
  (ab:K.toList.mapM (λq=>(ev L q.2).map λv=>(q.1,v))=some ((vs.zipIdx 0).map λq=>(q.2,q.1)))
  (ac:vs.length=id) (ae:xs.length=id) (ag:Io pp E xs vs) (ah:Ak E H S)
  (h:∀r seg,OL e pp E (some ⟨r,0,none⟩) id seg xs->Ak E H (S++ [seg])->JL J Q b n (Az L d (.slice (some ⟨r,0,none⟩) xs.length id)) ds (.inRegion ops rest::k) cs (Ae E H (S++ [seg]))):
  JL J Q b n L ds (.inRegion ops (i::rest)::k) cs (Ae E H S):=by
 exact JL.op O hw U λρ ai=>N1 ai vs xs V Y Z aa ab ac ae ag ah h
theorem OL.get{pp:Rp α}{a:Option Addr}{xs:List α}{m:Nat}{x:α}(Z:OL e pp E a c seg xs)(hm:xs[m]?=some x):
  ∃bk f ws,a=some ⟨bk,0,none⟩/\seg=[(bk,.cells f e (0,0))]/\pp.r E ws x/\(∀j w,ws[j]?=some w->f[m*pp.n+j]?=some w)/\(m+1)*pp.n<=f.size/\
   ∀(x':α) (ws':Lv_),pp.r E ws' x'->OL e pp E a c [(bk,.cells (Bf f (m*pp.n) ws') e (0,0))] (xs.set m x'):=by
 obtain⟨K,Z,ac,aa⟩:=Z;have ae:m<xs.length:=(d8.1 hm).1;rcases Z with⟨h1,ag,_⟩ | ⟨bk,f,h1,ag,an,ah,ai⟩;omega
 have hw:K[m]?=some K[m]:=f9 (by omega);have aj:=HZ ac aa;have hle:(m+1)*pp.n<=xs.length*pp.n:=la _ ae;have aq:xs.length*pp.n<=c*pp.n:=la _ ah;refine⟨bk,f,K[m],h1,ag,aa m x _ hm hw,λj w O=>?_,by omega,λx' ws' ak=>?_⟩;have:=I0 aj hw j w O;rw[ai,lU] at this;split at this;simpa using this;cases this
 .have al:ws'.length=pp.n:=pp.len ak;refine⟨K.set m ws',.inr ⟨bk,_,h1,rfl,by rw[Nk];exact an,by simpa using ah,?_⟩,by simpa using ac,λi y us Y hu=>?_⟩
  .simp only [l8];have key:∀(K:List (Lv_)) (m:Nat) (hm:m<K.length),(∀ws∈K,ws.length=pp.n)->∀j,(K.set m ws').flatten[j]?=if m*pp.n<=j/\j<(m+1)*pp.n then ws'[j - m*pp.n]? else K.flatten[j]? :=by
    intro K
    induction K with
    | nil=>intro m hm;simp at hm
    | cons us K ab=>
     intro m hm am j;have hu:us.length=pp.n:=am us (by simp);cases m with
     | zero=>
      simp only[mB,kT,mq,lz,true_and,l1,Nat.one_mul,np];split;rename_i O;rw[kN (by omega)];rename_i O;rw[kI (by omega),kI (by omega),al,hu]
     | succ m=>
      simp only[mC,kT];have U:(m+1)*pp.n=m*pp.n+pp.n:=ll _ _;have e2:(m+1+1)*pp.n=(m+1)*pp.n+pp.n:=ll _ _;rcases kC j us.length with O | O;rw[kN O,kN O,d7 (by omega)];rw[kI O,kI O,ab m (by simpa using hm) (λws ao=>am ws (kO _ ao))];by_cases V:m*pp.n<=j - us.length/\j - us.length<(m+1)*pp.n;rw[d5 V,d5 (by omega)];congr 1;omega;rw[d7 V,d7 (by omega)]
   have ap:∀(vs:Lv_) (c:Av_) (off:Nat),off+vs.length<=c.size->∀j,(Bf c off vs)[j]?=if off<=j/\j<off+vs.length then vs[j - off]? else c[j]? :=by
    intro vs
    induction vs with
    | nil=>intro c off _ j;simp[Bf];omega
    | cons w vs ab=>
     intro c off V j;simp only[Bf,k0] at*;rw[ab _ _ (by simp;omega)];by_cases U:j=off;subst U;rw[d7 (by omega),d5 (by omega),nn,lP,kD (by omega)]
     .by_cases e2:off+1<=j/\j<off+1+vs.length
      .rw [d5 e2,d5 (by omega)];have:j - off=(j - (off+1))+1:=by omega
       rw[this];simp
      .rw [d7 e2,d7 (by omega),f6 (by omega)]
   apply lQ;intro j;have U:(m+1)*pp.n=m*pp.n+pp.n:=ll _ _;have t1:(Bf f (m*pp.n) ws').toList[j]?=(Bf f (m*pp.n) ws')[j]? :=lC;have t2:f.toList[j]?=f[j]? :=lC;rw[key K m (by omega) aj,lU,t1,ap ws' f (m*pp.n) (by omega),ai,lU,t2,al];by_cases V:m*pp.n<=j/\j<(m+1)*pp.n;rw[d5 V,d5 (by omega),d5 (by omega)];rw[d7 V,d7 (show ¬(m*pp.n<=j/\j<m*pp.n+pp.n) by omega)]
  .rw [lR] at Y hu;by_cases U:m=i;subst U;rw[d5 rfl,d5 ae] at Y;rw[d5 rfl,d5 (by omega)] at hu;cases Y;cases hu;exact ak;rw[d7 U] at hu Y;exact aa i y us Y hu
theorem P3{pp:Rp α}{a:Option Addr}{xs:List α}{xv:α}{m:Int}(j:Nat)(O:OL e pp E a c seg xs)(hm:ix xs m=some xv)(U:S[j]?=some seg)
  (V:ops[i]?=some ⟨d,.indexAddr t x y,ty,p,af,g⟩) (hw:AO L ops ⟨d,.indexAddr t x y,ty,p,af,g⟩=some true) (Y:Bt b n ⟨d,.indexAddr t x y,ty,p,af,g⟩=true)
  (Z:ev L x=some (.slice a xs.length c)) (aa:ev L y=some (.int kd m)) (ab:P.underlying t=some (.slice e)) (ac:Bo P e=some pp.n)
  (h:∀bk o f ws,S[j]?=some [(bk,.cells f e (0,0))]->pp.r E ws xv->(∀j w,ws[j]?=some w->f[o+j]?=some w)->o+pp.n<=f.size->(∀(x':α) (ws':Lv_),pp.r E ws' x'->OL e pp E a c [(bk,.cells (Bf f o ws') e (0,0))] (xs.set m.toNat x'))->o=m.toNat*pp.n->a=some ⟨bk,0,none⟩->
   JL J Q b n (Az L d (.pointer (some ⟨bk,o,none⟩))) ds (.inRegion ops rest::k) cs (Ae E H S)):
  JL J Q b n L ds (.inRegion ops (i::rest)::k) cs (Ae E H S):=by
 obtain⟨m,rfl,hm⟩:=FM hm;have ak:m<xs.length:=(d8.1 hm).1;obtain⟨bk,f,ws,rfl,rfl,h1,ae,ag,ah⟩:=OL.get O hm;have ai:(m+1)*pp.n=m*pp.n+pp.n:=ll _ _;have aj:m*pp.n+pp.n<=f.size:=by rw[← ai];exact ag
 refine Ac (v:=.pointer (some ⟨bk,m*pp.n,none⟩)) V hw Y (λρ K=>?_) (h bk (m*pp.n) f ws U h1 ae aj (by simpa using ah) (by simp) rfl);have:=LA (P:=P) (s:=Ae E H S) (d:=d) (ty:=ty) (p:=p) (af:=af) (g:=g) ab ac (K x _ Z) (K y _ aa) ⟨by omega,by omega⟩;rw[DK rfl] at this;simpa using this
end
section
variable {b:Frame}{n:Nat}
variable {x:Operand}{v:Value}{i:Nat}
theorem JS.perm(h0:S.flatten.Perm S'.flatten)(K:Ak E H S)(h:Ak E H S'->JL J Q b n L ds todo cs (Ae E H S')):JL J Q b n L ds todo cs (Ae E H S):=by
 have O:Ak E H S':=Nd.perm K h0;rw[show Ae E H S=Ae E H S' from Ez K h0];exact h O
theorem Qh{A B:Seg}(j:Nat)(K:S[j]?=some (A++B))(O:Ak E H S)(h:Ak E H (S.set j A++ [B])->JL J Q b n L ds todo cs (Ae E H (S.set j A++ [B]))):JL J Q b n L ds todo cs (Ae E H S):=by
 refine JS.perm ?_ O h;have h1:=(Db (seg':=A) K).1;have U:=(Db (seg':=A) K).2;rw[IC];refine h1.trans ?_;have V:=U.symm.append_right B
 rwa[lA] at V
theorem JS.swap{A B:Seg}(j l:Nat)(O:S[j]?=some A)(U:S[l]?=some B)(V:(j==l)=false)(Y:Ak E H S)(h:Ak E H ((S.set j B).set l A)->JL J Q b n L ds todo cs (Ae E H ((S.set j B).set l A))):JL J Q b n L ds todo cs (Ae E H S):=by
 have K:j≠l:=by simpa using V
 refine JS.perm ?_ Y h;have a1:=(Db (seg':=B) O).1;have Z:(S.set j [])[l]?=some B:=by rw[l2 K];exact U
 have aa:=(Db (seg':=A) Z).1;have b1:((S.set j B).set l A)[l]?=some A:=by
  have:l<(S.set j B).length:=by rw[l8];exact(d8.1 U).1
  rw[lR,d5 rfl,d5 this]
 have c1:=(Db (seg':=A) b1).1;rw[m3] at c1;have ab:((S.set j B).set l [])[j]?=some B:=by
  have:j<S.length:=(d8.1 O).1;rw[l2 (kU K)];simp[this]
 have c2:=(Db (seg':=B) ab).1;have ac:(((S.set j B).set l []).set j [])=((S.set j []).set l []):=by
  rw[nk _ _ K,m3,nk _ _ K.symm]
 rw[ac] at c2;exact a1.trans ((aa.append_right A).trans ((c2.symm.append_right A).trans c1.symm))
theorem DV{id:Nat}{c:Av_}{f:Nat×Nat}{vs:Lv_}(j:Nat)(K:Ak E H S)(O:S[j]?=some ((id,.cells c e f)::seg))(U:(c.toList.drop off).take vs.length=vs):∀i v,vs[i]?=some v->(Ae E H S).cell? (Addr.add ⟨id,off,none⟩ i)=some v:=
 RZ K O λi v hi=>by
  have V:i<vs.length:=(d8.1 hi).1
  rw[← U,List.getElem?_take_of_lt V,mU,lC] at hi
  exact hi
theorem Pf(vs:Lv_):∀(c:Av_) (off:Nat),off+vs.length<=c.size->∀j,(Bf c off vs)[j]?=if off<=j/\j<off+vs.length then vs[j - off]? else c[j]? :=by
 induction vs with
 | nil=>intro c off _ j;simp[Bf];omega
 | cons w vs K=>
  intro c off U j;simp only[Bf,k0] at*;rw[K _ _ (by simp;omega)];by_cases O:j=off;subst O;rw[d7 (by omega),d5 (by omega),nn,lP,kD (by omega)]
  .by_cases e2:off+1<=j/\j<off+1+vs.length
   .rw [d5 e2,d5 (by omega)];have:j - off=(j - (off+1))+1:=by omega
    rw[this];simp
   .rw [d7 e2,d7 (by omega),f6 (by omega)]
end
theorem elim_inl{K:Type}{f:α->Option K}{g:β->Option K}{x:α}{r:K}(h:Sum.elim f g (.inl x)=some r):f x=some r:=h
theorem elim_inr{K:Type}{f:α->Option K}{g:β->Option K}{x:β}{r:K}(h:Sum.elim f g (.inr x)=some r):g x=some r:=h
def room{α:Type}(xs:List α)(x:α):Option (List α):=if xs.length+1<=2^40 then some (xs++ [x]) else none
theorem Nt{xs ys:List α}{x:α}(h:room xs x=some ys):xs.length+1<=2^40/\ys=xs++ [x]:=by
 unfold room at h;split at h;rename_i hb;exact⟨hb,(d0 h).symm⟩;cases h
def JJ(a b:Int):Option Int:=if b=0 then none else some (a.tmod b)
def MA(a b:Nat):Option Nat:=if b=0 then none else some (a%b)
section
variable {x:Operand}{v:Value}{m:Int}{a b:Nat}
theorem P6(K:ρ x=iV m)(O:ρ y=iV m')(h:JJ m m'=some r):Yl P ⟨d,.binOp .rem t x y u,ty,p,af,g⟩ ρ s (iV r):=by
 unfold JJ at h;split at h;cases h;rename_i h0;cases h;exact Yl.rem K O h0
theorem Ti{r:Nat}(K:ρ x=.int .u64 (a:Int))(O:ρ y=.int .u64 (b:Int))(h:MA a b=some r):Yl P ⟨d,.binOp .rem t x y u,ty,p,af,g⟩ ρ s (.int .u64 (r:Int)):=by
 unfold MA at h;split at h;cases h;rename_i h0;cases h;exact Ud K O h0
theorem Yl.min2(K:ρ x=iV m)(O:ρ y=iV m'):Yl P ⟨d,.call ⟨.builtin .min,#[x,y],ats⟩,ty,p,af,g⟩ ρ s (iV (min m m')):=by
 have e:(if m'<m then m' else m)=min m m':=by split<;>omega
 simp[Yl,execOp,lp,pure,bind,Sem.bind,K,O,resolve,invoke,builtin,Builtin.min_,Builtin.min2,e]
end
def KY(P:Program):List Field->List (Nat×Nat)->Prop
 | f::K,(o,n)::O=>f.offset=o/\Bo P f.type=some n/\KY P K O
 | [],[]=>True
 | _,_=>False
theorem KY.mapM{P:Program}:∀{K:List Field}{O:List (Nat×Nat)},KY P K O->K.mapM (λf=>(Bo P f.type).map λn=>(f.offset,n))=some O
 | [],[],_=>rfl
 | [],_::_,h=>h.elim
 | _::_,[],h=>h.elim
 | f::K,(o,n)::O,h=>by
  obtain⟨h1,U,V⟩:=h
  simp only[mT,bind,U,mh,Option.bind_some,KY.mapM V,h1];rfl
theorem Pt{L:Env}{ρ:Operand->Value}(h:Eg L ρ):∀{l:List (Nat×Operand)}{vs:List (Nat×Value)},l.mapM (λq=>(ev L q.2).map λv=>(q.1,v))=some vs->l.map (λ(j,x)=>(j,ρ x))=vs
 | [],vs,e=>by simp at e;subst e;rfl
 | q::l,vs,e=>by
  simp only[mT,bind] at e
  cases K:ev L q.2 with
  | none=>rw[K] at e;simp at e
  | some w=>
   rw[K] at e
   simp only[mh,Option.bind_some] at e
   let⟨U,h1,O⟩:=bind_some e
   simp at O;subst O
   simp[Pt h h1,h _ _ K]
theorem Cf{P:Program}{s:St}{ρ:Operand->Value}{L:Env}{d:Option Tmp}{t ty:TypeId}{p:String}{af:Ae_}{g:On_}{z:Value}{K:Array Field}{O:Array (Nat×Operand)}{vs:List (Nat×Value)}{cells:Av_}(places:List (Nat×Nat))(h:Eg L ρ)(U:zeroOf P t=some z)(V:P.underlying t=some (.struct K))(Y:KY P K.toList places)
  (Z:O.toList.mapM (λq=>(ev L q.2).map λv=>(q.1,v))=some vs) (aa:Jo (places.toArray[·]?) z.cells vs=some cells):Yl P ⟨d,.build t O,ty,p,af,g⟩ ρ s (.agg cells):=
 Yl.build (places:=places.toArray) U V (by simpa using Y.mapM) (Pt h Z) (by rw[fill_eq];exact aa)
theorem OL.again{e:TypeId}{pp:Rp α}{E:LH}{a:Option Addr}{id o:Nat}{f:Av_}{xs:List α}{m:Int}{x:α}(O:OL e pp E a c [(id,.cells f e (0,0))] xs)(hm:ix xs m=some x)(U:o=m.toNat*pp.n):
  ∃ws,pp.r E ws x/\(∀j w,ws[j]?=some w->f[o+j]?=some w)/\o+pp.n<=f.size/\∀(x':α) (ws':Lv_),pp.r E ws' x'->OL e pp E a c [(id,.cells (Bf f o ws') e (0,0))] (xs.set m.toNat x'):=by
 obtain⟨m,rfl,hm⟩:=FM hm;obtain⟨ae,ag,ws,h1,K,V,Y,Z,aa⟩:=OL.get O hm;simp only[List.cons.injEq,d9,Obj.cells.injEq,and_true] at K;obtain⟨rfl,rfl⟩:=K;have ab:(m+1)*pp.n=m*pp.n+pp.n:=ll _ _;have ac:o=m*pp.n:=by simpa using U
 subst ac;exact⟨ws,V,Y,by rw[← ab];exact Z,by simpa using aa⟩
section
variable {b:Frame}{n:Nat}
variable {x:Operand}{v:Value}{i:Nat}
theorem JS.app{pp:Rp α}{t1 t2:TypeId}{id:Nat}{a:Option Addr}{xs ys:List α}{xv:α}{Y:Nat}{O:TypeId}{U:String}{V:Ae_}{z:Value}(j:Nat)(ab:room xs xv=some ys)
  (ac:ops[i]?=some ⟨some d1,.buildSlice t2 1 #[(0,y)],O,U,V,g'⟩) (hw:AO L ops ⟨some d1,.buildSlice t2 1 #[(0,y)],O,U,V,g'⟩=some true) (ae:Bt b n ⟨some d1,.buildSlice t2 1 #[(0,y)],O,U,V,g'⟩=true)
  (ag:ops[Y]?=some ⟨d,.call ⟨.builtin .append,#[x,.tmp d1],ats⟩,ty,p,af,g⟩) (ah:∀w,AO (Az L (some d1) w) ops ⟨d,.call ⟨.builtin .append,#[x,.tmp d1],ats⟩,ty,p,af,g⟩=some true) (ai:Bt b n ⟨d,.call ⟨.builtin .append,#[x,.tmp d1],ats⟩,ty,p,af,g⟩=true)
  (aj:∀w,ev (Az L (some d1) w) x=some (.slice a xs.length c)) (ak:ev L y=some v) (al:ats[0]?=some t) (am:ats[1]?=some t1) (an:P.underlying t=some (.slice e)) (ao:P.underlying t1=some (.slice e)) (ap:P.underlying t2=some (.slice e)) (aq:Bo P e=some pp.n) (hb:GJ P e=some id) (ar:zeroOf P e=some z) (au:z.cells.size=pp.n)
  (av:0<id) (aw:id<=127) (ay:0<pp.n) (az:pp.n<=64) (aA:OL e pp E a c seg xs) (aB:pp.r E v.cells.toList xv) (aC:Ak E H S) (aD:S[j]?=some seg)
  (h:∀w Z aa seg',OL e pp E Z aa seg' ys->Ak E H (S.set j seg')->JL J Q b n (Az (Az L (some d1) w) d (.slice Z ys.length aa)) ds (.inRegion ops rest::k) cs (Ae E H (S.set j seg'))):
  JL J Q b n L ds (.inRegion ops (i::Y::rest)::k) cs (Ae E H S):=by
 obtain⟨aE,rfl⟩:=Nt ab;exact R2 j ac hw ae ag ah ai aj ak al am an ao ap aq hb ar au av aw ay az aE aA aB aC aD h
theorem AT(h0:S=S')(K:Ak E H S)(h:Ak E H S'->JL J Q b n L ds todo cs (Ae E H S')):JL J Q b n L ds todo cs (Ae E H S):=by
 subst h0;exact h K
theorem Pk(K:Ak E H S)(h:Ak E H (S++ [[]])->JL J Q b n L ds todo cs (Ae E H (S++ [[]]))):JL J Q b n L ds todo cs (Ae E H S):=
 EJ (S':=S++ [[]]) (by rw[IC,k2]) K h
end
theorem CZ.JC{P:Program}{J:Judge P}{f:FuncId}{args:Av_}{s:St}{R:Value->St->Prop}(h:CZ J f args s R)(U:∀v s',R v s'->s'.q=false):CZ J f args s (λv s'=>R v s'/\∃w,Fits s' w):=λQ c cs V=>
 h Q c cs λv s' K=>by
  by_cases O:∃w,Fits s' w;exact V v s' ⟨K,O⟩;exact J.step ⟨rfl,λw f=>absurd ⟨w,f⟩ O,λe=>by have:=U v s' K;subst e;cases this⟩
def AW(l:List Nat):Nat->Bool:=λx=>l.contains x
variable{oi:Oper}
section
variable {b:Frame}{n fuel:Nat}
variable {x:Operand}{v:Value}{i:Nat}
def KZ(ops:Ao_)(listed:Array Bool)(m i:Nat):Bool:=match ops[i]? with
 | some oi=>decide (i<m)&&Region.noSelect ops&& !CX oi.op&&G4 ops listed i oi&&Ga ops listed&&listed.size==ops.size&&(Region.ready .any ops listed).contains i
 | none=>false
theorem DJ(m:Nat){id:Nat}(hm:P.follows .mixedOrders=true)(K:(b.kind != .early)=true)
  (O:G3 ops m=true) (h:G3 ops m=true->AL J Q b n ds ops k cs m Dy ops.size (Array.replicate ops.size false) L (Ae E H S)):JL J Q b n L ds (.code (.region id ops true)::k) cs (Ae E H S):=
 PI m Dy V hm K (h O)
theorem Px{i:Nat}(hi:ops[i]?=some oi)(K:KZ ops listed m i=true):decide (i<m)=true/\Region.noSelect ops=true/\(!CX oi.op)=true/\G4 ops listed i oi=true/\Ga ops listed=true/\(listed.size==ops.size)=true/\(Region.ready .any ops listed).contains i=true:=by
 simp only[KZ,hi,f5] at K;obtain⟨⟨⟨⟨⟨⟨h1,O⟩,U⟩,V⟩,Y⟩,Z⟩,aa⟩:=K;exact⟨h1,O,U,V,Y,Z,aa⟩
theorem JG.val(i:Nat)(hi:ops[i]?=some oi)(K:G3 ops m=true)(O:KZ ops listed m i=true)(U:s.q=false)
  (hw:AO L ops oi=some true) (V:A5 n oi.dst=true) (Y:∀ρ,Eg L ρ->∀s':St,(∀x o,(A2 D s).E x=some o->s'.E x=some o)->Yl P oi ρ s' v)
  (h:AL J Q b n ds ops k cs m D fuel (AZ listed i) (Az L oi.dst v) s):AL J Q b n ds ops k cs m D (fuel+1) listed L s:=
 let ⟨h1,Z,aa,ab,ac,ae,ag⟩:=Px hi O
 Sp hi h1 K Z aa ab ac ae ag U hw V (λρ ah s' _ ai=>Y ρ ah s' ai) h
theorem DN(i:Nat)(hi:ops[i]?=some oi)(K:G3 ops m=true)(O:KZ ops listed m i=true)(U:s.q=false)
  (hw:AO L ops oi=some false) (V:A5 n oi.dst=true)
  (h:AL J Q b n ds ops k cs m D fuel (AZ listed i) (Az L oi.dst undef) s):AL J Q b n ds ops k cs m D (fuel+1) listed L s:=
 let ⟨h1,Y,Z,aa,ab,ac,ae⟩:=Px hi O
 SM hi h1 K Y Z aa ab ac ae U hw V h
theorem G2{pp:Rp α}{a:Option Addr}{xs:List α}{xv:α}{mm:Int}(i:Nat)(U:AK pp E a c xs)(K:ix xs mm=some xv)
  (V:ops[i]?=some ⟨d,.indexAddr t x y,ty,p,af,g⟩) (Y:G3 ops m=true) (Z:KZ ops listed m i=true) (aa:s.q=false)
  (hw:AO L ops ⟨d,.indexAddr t x y,ty,p,af,g⟩=some true) (ab:A5 n d=true)
  (ac:ev L x=some (.slice a xs.length c)) (ae:ev L y=some (.int kd mm)) (ag:P.underlying t=some (.slice e)) (ah:Bo P e=some pp.n)
  (h:∀bk o ws,pp.r E ws xv->At E bk o ws->AL J Q b n ds ops k cs m D fuel (AZ listed i) (Az L d (.pointer (some ⟨bk,o,none⟩))) s):
  AL J Q b n ds ops k cs m D (fuel+1) listed L s:=by
 obtain⟨mm,rfl,K⟩:=FM K;have ai:mm<xs.length:=(d8.1 K).1;obtain⟨am,⟨rfl,_⟩ | ⟨bk,off,rfl,aj⟩⟩:=U;simp at ai
 let⟨ws,ak,al⟩:=aj mm xv K;refine JG.val (v:=.pointer (some ⟨bk,off+mm*pp.n,none⟩)) i V Y Z aa hw ab (λρ O s' _=>?_) (h bk _ ws ak al);have:=LA (P:=P) (s:=s') (d:=d) (ty:=ty) (p:=p) (af:=af) (g:=g) ag ah (O x _ ac) (O y _ ae) ⟨by omega,by omega⟩;rw[DK rfl] at this;simpa using this
theorem JG.call{f:FuncId}{vs:Lv_}(V:Ax J f vs E [] R)(Y:Region.ready .any ops listed=[i])
  (Z:ops[i]?=some ⟨d,.call ⟨.value (.func f),args,ats⟩,ty,p,af,g⟩) (aa:A5 n d=true) (hw:AO L ops ⟨d,.call ⟨.value (.func f),args,ats⟩,ty,p,af,g⟩=some true) (hb:Dd P f=true) (ab:evs L args.toList=some vs) (ac:Ak E H S)
  (ae:∀v E' seg',Le E E'->R v E' seg'->Ak E' H (S++ [seg'])->AL J Q b n ds ops k cs m Dy fuel (AZ listed i) (Az L d v) (Ae E' H (S++ [seg']))):
  AL J Q b n ds ops k cs m Dy (fuel+1) listed L (Ae E H S):=by
 have ag:=CZ.JC (V (AS S.flatten H) trivial) (by rintro v s' ⟨E',B',_,_,_,rfl⟩;rfl);refine AL.call rfl Y Z aa hw hb ab ag ?_;rintro v al ⟨⟨E',B',hle,ah,ai,rfl⟩,w,aj⟩;have e2:mk E' (AS S.flatten H) B'=mk E' H (B'++S.flatten):=by unfold mk;rw[EI]
 have ak:Nd E' H S.flatten:=Nd.grow ac λx K=>by
  have h0:=aj.d x K;have h1:AS B' (AS S.flatten H) x=none:=h0;exact(GX h1).1
 have O:Nd E' H (B'++S.flatten):=Nd.glue ai ak;have U:(B'++S.flatten).Perm (S++ [B']).flatten:=by rw[IC];exact kK
 rw[e2,Ez O U];exact⟨rfl,λx o K=>hle x o K,ae v E' B' hle ah (Nd.perm O U)⟩
end
theorem Ml{E H:LH}{S:List Seg}{id:Nat}{o:Obj}(K:Ak E H S)(O:S[j]?=some ((id,o)::seg)):E id=none:=by
 have hm:(id,o)∈S.flatten:=mt.2 ⟨_,kL O,by simp⟩;exact((Nd.iff.1 K).2 _ hm).1
def G7{α:Type}(xs ys:List α):Option (List α):=if xs.length+ys.length<=2^40 then some (xs++ys) else none
def MS{α:Type}(xs:List α)(lo hi:Int):Option (List α):=if 0<=lo/\lo<=hi/\hi<=xs.length then some ((xs.take hi.toNat).drop lo.toNat) else none
section
variable {x:Operand}{v:Value}{m:Int}{a b:Nat}
end
variable {L':Env}
variable{ax:Option Addr}{ab cx:Nat}
section
variable {b:Frame}{n:Nat}
variable {x:Operand}{v:Value}{i:Nat}
theorem UJ{pp:Rp α}(O:ops[i]?=some ⟨d,.buildSlice t 0 #[],ty,p,af,g⟩)(hw:AO L ops ⟨d,.buildSlice t 0 #[],ty,p,af,g⟩=some true)(U:Bt b n ⟨d,.buildSlice t 0 #[],ty,p,af,g⟩=true)
  (V:P.underlying t=some (.slice e)) (Y:Bo P e=some pp.n) (Z:Ak E H S)
  (h:∀r seg,OL e pp E (some ⟨r,0,none⟩) 0 seg []->Ak E H (S++ [seg])->JL J Q b n (Az L d (.slice (some ⟨r,0,none⟩) 0 0)) ds (.inRegion ops rest::k) cs (Ae E H (S++ [seg]))):
  JL J Q b n L ds (.inRegion ops (i::rest)::k) cs (Ae E H S):=by
 refine JL.op O hw U λρ ab=>?_;rw[Pe];refine AG _ _ ?_;unfold Instr.buildSlice;refine AG _ _ (CE V ?_);refine AG _ _ (EH Y ?_);rw[d7 (by omega),d5 (by omega)];refine AG (x:=pure #[]) _ ?_;simp only[lp,pure,List.map_toArray,List.map_nil,Instr.fill];refine AG _ _ (I1 Z λr K=>?_);rw[(F8 K).1];exact h r _ ⟨[],.inr ⟨r,_,rfl,rfl,by simp,kG _,by simp⟩,rfl,λi x ws aa=>by simp at aa⟩ (F8 K).2
theorem AK.rows{pp:Rp α}{a:Option Addr}{xs:List α}(U:AK pp E a c xs):∃V:List (Lv_),V.length=xs.length/\(∀(i:Nat) x ws,xs[i]?=some x->V[i]?=some ws->pp.r E ws x)/\
  ((xs=[]/\∀ad:Addr,a=some ad->ad.spot=none∨c=0)∨∃bk off,a=some ⟨bk,off,none⟩/\∀(i:Nat) ws,V[i]?=some ws->At E bk (off+i*pp.n) ws):=by
 obtain⟨ab,U⟩:=U;rcases U with⟨rfl,Z⟩ | ⟨bk,off,rfl,aa⟩;exact⟨[],rfl,λi x ws O=>by simp at O,.inl ⟨rfl,Z⟩⟩
 .have Y:∀i:Fin xs.length,∃ws,pp.r E ws xs[i]/\At E bk (off+i*pp.n) ws:=λi=>aa i xs[i] (f9 i.2);refine⟨List.ofFn λi=>Classical.choose (Y i),by simp,λi x ws O hw=>?_,.inr ⟨bk,off,rfl,λi ws hw=>?_⟩⟩;have K:i<xs.length:=(d8.1 O).1;simp[K] at hw;subst hw;rw[f9 K] at O;cases O;exact(lq (Y ⟨i,K⟩)).1
  .have K:i<xs.length:=by have:=(d8.1 hw).1;simpa using this
   simp[K] at hw;subst hw;exact(lq (Y ⟨i,K⟩)).2
theorem Nj{n:Nat}:∀{K:List (Lv_)},(∀ws∈K,ws.length=n)->K.flatten.length=K.length*n
 | [],_=>by simp
 | ws::K,h=>by rw[kT,mi,h ws (by simp),Nj λw hw=>h w (kO _ hw),k0,ll,no]
theorem Nf{n:Nat}:∀{K:List (Lv_)},(∀ws∈K,ws.length=n)->∀{j:Nat}{w:Value},K.flatten[j]?=some w->∃(i m:Nat) (ws:Lv_),K[i]?=some ws/\ws[m]?=some w/\j=i*n+m
 | [],_,_,_,h=>by simp at h
 | us::K,U,j,w,h=>by
  have hu:=U us (by simp)
  rw[kT] at h
  rcases kC j us.length with O | O
  .rw [kN O] at h
   exact⟨0,j,us,rfl,h,by simp⟩
  .rw [kI O] at h;obtain⟨i,m,ws,h1,V,Y⟩:=Nf (λws hw=>U ws (kO _ hw)) h;exact⟨i+1,m,ws,by simpa using h1,V,by rw[ll];omega⟩
theorem Sa{pp:Rp α}{O U:List (Lv_)}{xs ys:List α}(V:O.length=xs.length)(h:∀(i:Nat) x ws,xs[i]?=some x->O[i]?=some ws->pp.r E ws x)(Y:∀(i:Nat) x ws,ys[i]?=some x->U[i]?=some ws->pp.r E ws x):
  ∀(i:Nat) y us,(xs++ys)[i]?=some y->(O++U)[i]?=some us->pp.r E us y:=by
 intro i y us K hu;rcases kC i xs.length with hi | hi;rw[kN hi] at K;rw[kN (by omega)] at hu;exact h i y us K hu;rw[kI hi] at K;rw[kI (by omega),V] at hu;exact Y _ y us K hu
theorem R7{e t t1:TypeId}{id aj l m:Nat}{a:Option Addr}{blk:List (Nat×Obj)}{xs ys:Lv_}{i:Nat}{rest:List Nat}{d:Option Tmp}{x y:Operand}{ty:TypeId}{p:String}{af:Ae_}{g:On_}{z:Value}{B1:List (Nat×Obj)}
  (au:ops[i]?=some ⟨d,.call ⟨.builtin .append,#[x,y],ats⟩,ty,p,af,g⟩) (hw:AO L ops ⟨d,.call ⟨.builtin .append,#[x,y],ats⟩,ty,p,af,g⟩=some true) (av:Bt b n ⟨d,.call ⟨.builtin .append,#[x,y],ats⟩,ty,p,af,g⟩=true)
  (aw:ev L x=some (.slice a l c)) (ay:ev L y=some (.slice ax m cx)) (az:ats[0]?=some t) (aA:ats[1]?=some t1) (aB:P.underlying t=some (.slice e)) (aC:P.underlying t1=some (.slice e)) (aD:Bo P e=some id) (hb:GJ P e=some aj) (aE:zeroOf P e=some z) (aF:z.cells.size=id)
  (aG:0<aj) (aH:aj<=127) (aI:l+m<=2^40) (aJ:∀w∈ys,A3 w=true) (ag:GS e id a l c blk xs) (ak:Nd E H (B0++blk++B1)) (al:Ie (mk E H (B0++blk++B1)) (.slice ax m cx) id ys)
  (h:∀ap ah am,GS e id ap (l+m) ah am (xs++ys)->Nd E H (B0++am)->JL J Q b n (Az L d (.slice ap (l+m) ah)) ds (.inRegion ops rest::k) cs (mk E H (B0++am))):
  JL J Q b n L ds (.inRegion ops (i::rest)::k) cs (mk E H (B0++blk++B1)):=by
 refine JL.op au hw av λρ aq=>?_;rw[OF,aq x _ aw,aq y _ ay];have aK:On (B0++blk++B1) B0.length e id a l c xs:=by
  rcases ag with⟨h1,U,aa,ab,Y⟩ | ⟨bk,f,h1,U,aa,ab,Y⟩;exact .inl ⟨h1,U,aa,Y⟩;refine .inr ⟨bk,f,h1,?_,aa,ab,Y⟩;subst U;simp
 have hlen:=ag.length;refine AG _ _ (Pp (pl:=B0.length) az aA aC aB aD hb aE aF ak aK al aJ aG aI aH ?_ ?_ ?_)
 ·
  intro bk f K ai aQ aR aL an ao Z;rcases ag with⟨h1,_⟩ | ⟨O,f0,h1,U,aa,ab,Y⟩;rw[h1] at ai;cases ai
  .subst U;have aM:O=bk:=by rw[h1] at ai;simpa using ai
   subst aM;have aN:(B0++ [(O,Obj.cells f0 e (0,0))]++B1).set B0.length (O,.cells K e (0,0))=B0++ [(O,.cells K e (0,0))]++B1:=by
    rw[lA,lA];exact Kq _ _ _ _
   rw[aN] at Z ⊢;have ac:Nd E H (B0++ [(O,.cells K e (0,0))]):=HU.Nd.left Z;refine JL.drop (B0++ [(O,.cells K e (0,0))]) (λp ae=>?_) Z (h a c _ (.inr ⟨O,K,h1,rfl,an,aL,ao.symm⟩) ac);exact kQ.1 (lF _ ae)
 .intro ar hm;rcases ag with⟨h1,U,aa,ab,Y⟩ | ⟨O,f0,h1,_⟩
  .subst hm;have aO:ys=[]:=by
    cases ax with
    | none=>exact al.2
    | some ad=>have:=al.2.1;simp at this;exact this
   subst U ab Y aO;have ac:Nd E H (B0++ []):=HU.Nd.left ak;exact JL.drop (B0++ []) (λp ae=>kQ.1 (lF _ ae)) ak (h none 0 [] (by simpa using GS.nil) ac)
  .rw [h1] at ar;cases ar
 ·
  intro r K ah aP an ao Z;have ac:Nd E H (B0++ [(r,.cells K e (0,0))]):=HU.Nd.pick Z;refine JL.drop (B0++ [(r,.cells K e (0,0))]) (λp ae=>?_) Z (h (some ⟨r,0,none⟩) ah _ (.inr ⟨r,K,rfl,rfl,an,aP,ao.symm⟩) ac);refine kQ.1 ?_;rcases kM.1 ae with q | q;simp[q];exact lB _ q
theorem IE{pp:Rp α}{t1:TypeId}{a:Option Addr}{xs ys ac:List α}{z:Value}(j:Nat)(V:G7 xs ys=some ac)
  (an:ops[i]?=some ⟨d,.call ⟨.builtin .append,#[x,y],ats⟩,ty,p,af,g⟩) (hw:AO L ops ⟨d,.call ⟨.builtin .append,#[x,y],ats⟩,ty,p,af,g⟩=some true) (ao:Bt b n ⟨d,.call ⟨.builtin .append,#[x,y],ats⟩,ty,p,af,g⟩=true)
  (ap:ev L x=some (.slice a xs.length c)) (aq:ev L y=some (.slice ax ys.length cx)) (ar:ats[0]?=some t) (au:ats[1]?=some t1) (av:P.underlying t=some (.slice e)) (aw:P.underlying t1=some (.slice e)) (ay:Bo P e=some pp.n) (hb:GJ P e=some ab) (az:zeroOf P e=some z) (aA:z.cells.size=pp.n)
  (aB:0<ab) (aC:ab<=127) (ae:OL e pp E a c seg xs) (ah:AK pp E ax cx ys) (aD:Ak E H S) (ai:S[j]?=some seg)
  (h:∀Y Z seg',OL e pp E Y Z seg' ac->Ak E H (S.set j seg')->JL J Q b n (Az L d (.slice Y ac.length Z)) ds (.inRegion ops rest::k) cs (Ae E H (S.set j seg'))):
  JL J Q b n L ds (.inRegion ops (i::rest)::k) cs (Ae E H S):=by
 unfold G7 at V;split at V
 rotate_left
 .cases V
 rename_i aE;cases V;obtain⟨aF,ae,aj,aG⟩:=ae;let⟨h1,ak⟩:=FJ aD ai;obtain⟨aa,O,ag,U⟩:=ah.rows;have al:=HZ O ag;rw[h1];have aH:∀w∈aa.flatten,A3 w=true:=λw hw=>by
  let⟨us,aI,hw⟩:=mt.1 hw;let⟨q,K⟩:=kQ.1 aI;have aJ:q<ys.length:=by rw[← O];exact(d8.1 K).1
  exact pp.one (ag q _ us (f9 aJ) K) w hw
 have hlen:(xs++ys).length=xs.length+ys.length:=by simp
 have am:Ie (mk E H ((S.set j []).flatten++seg)) (.slice ax ys.length cx) pp.n aa.flatten:=by
  rcases U with⟨U,aT⟩ | ⟨bk,off,rfl,U⟩
  .subst U;have:aa=[]:=lN O;subst this;cases ax with
   | none=>exact⟨rfl,rfl⟩
   | some ad=>exact⟨.inr rfl,by simp,lz _,λq w K=>by simp at K⟩
  .refine⟨.inl rfl,by rw[Nj al,O],ah.1,λq w K=>?_⟩;let⟨aK,m,ws,aL,e2,aM⟩:=Nf al K;have:=(U aK ws aL).cell (H:=H) (B:=(S.set j []).flatten++seg) e2;subst aM;rw[← mf];exact this
 have aN:(S.set j []).flatten++seg=(S.set j []).flatten++seg++ []:=(k2 _).symm;rw[aN] at ak am ⊢;refine R7 an hw ao ap aq ar au av aw ay hb az aA aB aC aE aH ae ak am λY Z aO aP aQ=>?_;let⟨aR,aS⟩:=Hu ai aQ;rw[aR];have:=h Y Z aO ⟨aF++aa,by rw[hlen,List.flatten_append];exact aP,by simp[aj,O],Sa aj aG ag⟩ aS;rw[hlen] at this;exact this
end
section
variable {b:Frame}{n fuel:Nat}
variable {x:Operand}{v:Value}{i:Nat}
theorem LR(h:Sub L' L)(k':AL J Q b n ds ops k cs m D fuel listed L' s):AL J Q b n ds ops k cs m D fuel listed L s:=λT K=>k' T (K.sub h)
theorem PW{id:Nat}{O:Array Bool}(fuel:Nat)(listed:Array Bool)(I:Env->St->Prop)(U:∀L s,I L s->AL J Q b n ds ops k cs m D fuel listed L s)(h:(∀L s,I L s->AL J Q b n ds ops k cs m D fuel listed L s)->AL J Q b n ds ops k cs m D id O L s):AL J Q b n ds ops k cs m D id O L s:=h U
end
variable{kk:Nat}
theorem WY{pp:Rp α}{E:LH}{id o:Nat}{ws:Lv_}{xs:List α}{m:Int}{x:α}(U:(rA kk pp).r E ws xs)(h:At E id o ws)(hm:ix xs m=some x):∃us,pp.r E us x/\At E id (o+m.toNat*pp.n) us/\0<=m/\m<kk:=by
 obtain⟨h0,K,rfl,h1,O⟩:=U;obtain⟨m,rfl,hm⟩:=FM hm;have Z:m<xs.length:=(d8.1 hm).1;have hw:K[m]?=some K[m]:=f9 (by omega);refine⟨K[m],O m x _ hm hw,?_,by omega,by omega⟩;obtain⟨f,e,fr,V,g2⟩:=h;refine⟨f,e,fr,V,λj w Y=>?_⟩;rw[mf];exact g2 _ _ (I0 (HZ (h1.trans h0.symm) O) hw j w Y)
variable {v':Value}
section
variable {x:Operand}{v:Value}
end
section
variable {b:Frame}{n:Nat}
variable {x:Operand}{i:Nat}
end
section
variable {x:Operand}{v:Value}
end
section
variable (J:Judge P)(Q:Gs_)(b:Frame)(n:Nat)(ds:Ld_)(ops:Ao_)(k:Li_)(cs:Lf_)(m:Nat)(D:Nat->Bool)
def Take(fuel:Nat)(listed:Array Bool)(L:Env)(s:St)(i:Nat):Prop:=
 ∃o,ops[i]?=some o/\(!CX o.op)=true/\A5 n o.dst=true/\AO L ops o=some true/\∀ρ,Eg L ρ->lp P (execOp ρ o) (A2 D s) (λnx s'=>match nx with
  | .value v=>AL J Q b n ds ops k cs m D fuel (AZ listed i) (Az L o.dst v) (Bz D s s')
  | .skip=>AL J Q b n ds ops k cs m D fuel (AZ listed i) (Az L o.dst undef) (Bz D s s')
  | .enter f args=>∃R,CZ J f args (Bz D s s') R/\∀v K,R v K->K.q=false/\(∀x o,(A2 D s).E x=some o->(A2 D K).E x=some o)/\AL J Q b n ds ops k cs m D fuel (AZ listed i) (Az L o.dst v) K
  | _=>False) (λ_ _=>False)
end
variable{jp:Nat}
section
variable {b:Frame}{n fuel:Nat}
variable {x:Operand}{v:Value}{i:Nat}
theorem O9(U:s.q=false){l:List Nat}(K:Region.ready .any ops listed=l)(V:l≠ [])(h:∀i∈l,Take J Q b n ds ops k cs m D fuel listed L s i):AL J Q b n ds ops k cs m D (fuel+1) listed L s:=
 PH U (by rw[K];exact V) λi hi o O=>by
  rw[K] at hi
  let⟨o',h1,Y,Z,aa,ab⟩:=h i hi
  obtain rfl:o'=o:=by rw[h1] at O;exact d0 O
  exact⟨Y,Z,true,aa,λe=>(by cases e),λ_=>ab⟩
theorem JG.one(K:s.q=false)(O:Region.ready .any ops listed=[i])(h:Take J Q b n ds ops k cs m D fuel listed L s i):AL J Q b n ds ops k cs m D (fuel+1) listed L s:=
 O9 K O (by simp) (by simpa using h)
theorem KA{i:Nat}(K:s.q=false)(O:Region.ready .any ops listed=[i,j])(hi:Take J Q b n ds ops k cs m D fuel listed L s i)(U:Take J Q b n ds ops k cs m D fuel listed L s j):AL J Q b n ds ops k cs m D (fuel+1) listed L s:=
 O9 K O (by simp) (by intro q K;simp at K;rcases K with rfl | rfl<;>assumption)
def plus(E:LH)(bk:Nat)(o:Obj):LH:=λx=>if x=bk then Option.some o else E x
theorem UG{id:Nat}{o:Obj}(Y:Ak E H S)(Z:S[jp]?=Option.some [(id,o)]):A2 (AW [id]) (Ae E H S)=Ae (plus E id o) H (S.set jp [])/\Ak (plus E id o) H (S.set jp []):=by
 let⟨h1,U⟩:=FJ Y Z;have V:=Nd.iff.1 U;have ah:E id=Option.none:=(V.2 (id,o) (by simp)).1;have ab:H id=Option.none:=(V.2 (id,o) (by simp)).2;have aa:∀q∈(S.set jp []).flatten,q.1≠id:=λq O e=>by
  have:=V.1;rw[k7,ls] at this;exact this.2.2 q.1 (mw O) id (by simp) e
 have ac:(Ae E H S).get id=Option.some o:=Dp (i:=0) Y Z rfl;have ae:∀x,x≠id->AS ((S.set jp []).flatten++ [(id,o)]) H x=AS (S.set jp []).flatten H x:=λx K=>by
  rw[show AS ((S.set jp []).flatten++ [(id,o)]) H=AS ([(id,o)]++(S.set jp []).flatten) H from Kc U kK];simp[AS,K]
 refine⟨?_,?_⟩
 .unfold A2;have ag:(λx=>if AW [id] x=true then(Ae E H S).get x else(Ae E H S).E x)=plus E id o:=by
   funext x;unfold plus;by_cases K:x=id;subst K;simp[AW,ac];simp[AW,K];rfl
  have e2:(λx=>if AW [id] x=true then Option.none else(Ae E H S).H x)=AS (S.set jp []).flatten H:=by
   funext x;by_cases K:x=id;subst K;simp[AW];rw[Kg aa,ab];simp only[AW,List.contains_cons,List.contains_nil,Bool.or_false,mb,d7 K];rw[h1];exact ae x K
  rw[ag,e2];rfl
 .have h0:Nd E H (S.set jp []).flatten:=HU.Nd.left U;show Nd _ H (S.set jp []).flatten;rw[Nd.iff] at h0 ⊢;exact⟨h0.1,λq O=>⟨by unfold plus;rw[d7 (aa q O)];exact(h0.2 q O).1,(h0.2 q O).2⟩⟩
theorem Se{id:Nat}{o:Obj}(ag:Ak E H S)(ah:S[jp]?=Option.some [(id,o)])(ai:Ak (plus E id o) H S')(V:S'[jp]?=Option.some []):Bz (AW [id]) (Ae E H S) (Ae (plus E id o) H S')=Ae E H (S'.set jp [(id,o)])/\Ak E H (S'.set jp [(id,o)]):=by
 let⟨h1,aa⟩:=FJ ag ah;have ab:=Nd.iff.1 aa;have aj:E id=Option.none:=(ab.2 (id,o) (by simp)).1;have ak:H id=Option.none:=(ab.2 (id,o) (by simp)).2;have Y:(S'.set jp []).flatten=S'.flatten:=by
  have:S'.set jp []=S':=by
   apply lQ;intro q;rw[lR];split;rename_i e;subst e;rw[V,d5 (d8.1 V).1];rfl
  rw[this]
 have U:=Nd.iff.1 (show Nd _ H S'.flatten from ai);have ac:∀q∈S'.flatten,q.1≠id:=λq K e=>by
  have:=(U.2 q K).1;unfold plus at this;rw[d5 e] at this;cases this
 have Z:Nd E H ((S'.set jp []).flatten++ [(id,o)]):=by
  rw[Y,Nd.iff,k7,ls];refine⟨⟨U.1,by simp,λx O y ae e=>?_⟩,λq K=>?_⟩;obtain⟨q,K,rfl⟩:=k3.1 O;simp at ae;subst ae;exact ac q K e
  .rcases kM.1 K with K | K
   .refine⟨?_,(U.2 q K).2⟩;have:=(U.2 q K).1;unfold plus at this
    rwa[d7 (ac q K)] at this
   .simp at K;subst K;exact⟨aj,ak⟩
 let⟨al,am⟩:=Hu (seg':=[(id,o)]) V Z;refine⟨?_,am⟩;rw[← al,Y];unfold Bz Ae mk;congr 1
 .funext x;show(if AW [id] x=true then E x else plus E id o x)=E x
  by_cases O:x=id;subst O;simp[AW];simp[AW,O,plus]
 .funext x;show(if AW [id] x=true then(Ae E H S).H x else AS S'.flatten H x)=AS (S'.flatten++ [(id,o)]) H x
  have an:AS (S'.flatten++ [(id,o)]) H=AS ([(id,o)]++S'.flatten) H:=Kc (by rw[Y] at Z;exact Z) kK;rw[an];by_cases O:x=id;subst O;simp only[AW,List.contains_cons,beq_self_eq_true,Bool.true_or,lL,lj,lh,AS];rw[h1];show AS ((S.set jp []).flatten++ [(x,o)]) H x=_;rw[show AS ((S.set jp []).flatten++ [(x,o)]) H=AS ([(x,o)]++(S.set jp []).flatten) H from Kc aa kK];simp[AS];simp[AW,O,AS]
end
section
variable {x:Operand}
end
section
variable {b:Frame}{n fuel:Nat}
variable {x:Operand}{v:Value}{i:Nat}
theorem Take.A2{id:Nat}{o:Obj}(O:Ak E H S)(U:S[jp]?=some [(id,o)])(hi:ops[i]?=some oi)(K:(!CX oi.op&&A5 n oi.dst)=true)(hw:AO L ops oi=some true)
  (h:∀ρ,Eg L ρ->Ak (plus E id o) H (S.set jp [])->lp P (execOp ρ oi) (Ae (plus E id o) H (S.set jp [])) (λnx s'=>∃v S',nx=.value v/\s'=Ae (plus E id o) H S'/\Ak (plus E id o) H S'/\S'[jp]?=some []/\
   (Ak E H (S'.set jp [(id,o)])->AL J Q b n ds ops k cs m (AW [id]) fuel (AZ listed i) (Az L oi.dst v) (Ae E H (S'.set jp [(id,o)])))) (λ_ _=>False)):
  Take J Q b n ds ops k cs m (AW [id]) fuel listed L (Ae E H S) i:=by
 simp only[f5] at K;refine⟨oi,hi,K.1,K.2,hw,λρ V=>?_⟩;let⟨h1,Y⟩:=UG O U;rw[h1];refine CL _ (h ρ V Y) ?_ (λ_ _ h=>h);rintro nx s' ⟨v,S',rfl,rfl,Z,aa,ab⟩;let⟨ac,ae⟩:=Se O U Z aa;show AL J Q b n ds ops k cs m (AW [id]) fuel (AZ listed i) (Az L oi.dst v) (Bz (AW [id]) (Ae E H S) (Ae (plus E id o) H S'));rw[ac];exact ab ae
theorem Take.lit{id:Nat}{o:Obj}{pp:Rp α}{len:Nat}(vs:Lv_){z:Value}(xs:List α)(Y:Ak E H S)(O:S[jp]?=some [(id,o)])
  (Z:ops[i]?=some ⟨d,.buildSlice t len K,ty,p,af,g⟩) (hw:AO L ops ⟨d,.buildSlice t len K,ty,p,af,g⟩=some true) (aa:A5 n d=true)
  (ab:P.underlying t=some (.slice e)) (ac:Bo P e=some pp.n) (ae:zeroOf P e=some z) (ag:decide (0<len*pp.n/\len*pp.n<=2^24)=true)
  (ah:K.toList.mapM (λq=>(ev L q.2).map λv=>(q.1,v))=some ((vs.zipIdx 0).map λq=>(q.2,q.1)))
  (ai:vs.length=len) (aj:xs.length=len) (ak:Io pp E xs vs)
  (h:∀r seg,OL e pp E (some ⟨r,0,none⟩) len seg xs->Ak E H (S++ [seg])->AL J Q b n ds ops k cs m (AW [id]) fuel (AZ listed i) (Az L d (.slice (some ⟨r,0,none⟩) xs.length len)) (Ae E H (S++ [seg]))):
  Take J Q b n ds ops k cs m (AW [id]) fuel listed L (Ae E H S) i:=by
 have U:jp<S.length:=(d8.1 O).1;refine Take.A2 Y O Z (by simp[CX,aa]) hw λρ al am=>N1 al vs xs ab ac ae ag ah ai aj ak am λr seg an ao=>⟨_,S.set jp []++ [seg],rfl,rfl,ao,by rw[kN (by simpa using U)];simp[U],λV=>?_⟩;have ap:(S.set jp []++ [seg]).set jp [(id,o)]=S++ [seg]:=by
  rw[List.set_append_left _ _ (by simpa using U),m3];congr 1;apply lQ;intro q;rw[lR];split;rename_i e;subst e;rw[O];rfl
 rw[ap] at V ⊢;exact h r seg an V
end
section
variable {b:Frame}{n fuel:Nat}
variable {x:Operand}{v:Value}{i:Nat}
theorem Take.Q0(hi:ops[i]?=some oi)(K:(!CX oi.op&&A5 n oi.dst)=true)(hw:AO L ops oi=some true)
  (h:∀ρ,Eg L ρ->lp P (execOp ρ oi) s (λnx s'=>match nx with
   | .value v=>AL J Q b n ds ops k cs m Dy fuel (AZ listed i) (Az L oi.dst v) s'
   | .skip=>AL J Q b n ds ops k cs m Dy fuel (AZ listed i) (Az L oi.dst undef) s'
   | _=>False) (λ_ _=>False)):Take J Q b n ds ops k cs m Dy fuel listed L s i:=by
 simp only[f5] at K
 refine⟨oi,hi,K.1,K.2,hw,λρ U=>CL _ (h ρ U) ?_ (λ_ _ h=>h)⟩
 intro nx s' O
 cases nx with
 | value v=>exact O
 | skip=>exact O
 | _=>exact O.elim
theorem Take.Ik{pp:Rp α}{id:Nat}(vs:Lv_){z:Value}(xs:List α)(O:Ak E H S)
  (U:ops[i]?=some ⟨d,.buildSlice t id K,ty,p,af,g⟩) (hw:AO L ops ⟨d,.buildSlice t id K,ty,p,af,g⟩=some true) (V:A5 n d=true)
  (Y:P.underlying t=some (.slice e)) (Z:Bo P e=some pp.n) (aa:zeroOf P e=some z) (ab:decide (0<id*pp.n/\id*pp.n<=2^24)=true)
  (ac:K.toList.mapM (λq=>(ev L q.2).map λv=>(q.1,v))=some ((vs.zipIdx 0).map λq=>(q.2,q.1)))
  (ae:vs.length=id) (ag:xs.length=id) (ah:Io pp E xs vs)
  (h:∀r seg,OL e pp E (some ⟨r,0,none⟩) id seg xs->Ak E H (S++ [seg])->AL J Q b n ds ops k cs m Dy fuel (AZ listed i) (Az L d (.slice (some ⟨r,0,none⟩) xs.length id)) (Ae E H (S++ [seg]))):
  Take J Q b n ds ops k cs m Dy fuel listed L (Ae E H S) i:=
 Take.Q0 U (by simp[CX,V]) hw λρ ai=>N1 ai vs xs Y Z aa ab ac ae ag ah O λr seg aj ak=>h r seg aj ak
end
theorem N3{pp:Rp α}{E:LH}{ws:Lv_}{xs:List α}(K:(rA kk pp).r E ws xs):ws.length=kk*pp.n:=(rA kk pp).len K
theorem LG{pp:Rp α}{E:LH}{ws:Lv_}{xs:List α}{m:Int}{x:α}(U:(rA kk pp).r E ws xs)(hm:ix xs m=some x):∃us,pp.r E us x/\0<=m/\m<kk/\(∀j w,us[j]?=some w->ws[m.toNat*pp.n+j]?=some w):=by
 obtain⟨h0,K,rfl,h1,O⟩:=U;obtain⟨m,rfl,hm⟩:=FM hm;have Y:m<xs.length:=(d8.1 hm).1;have hw:K[m]?=some K[m]:=f9 (by omega);exact⟨K[m],O m x _ hm hw,by omega,by omega,λj w V=>I0 (HZ (h1.trans h0.symm) O) hw j w V⟩
section
variable {b:Frame}{n:Nat}
variable {x:Operand}{i:Nat}
theorem TG{pp:Rp α}{a:Addr}{ws:Lv_}{xs:List α}(K:(rA kk pp).r E ws xs)(O:DZ P t=some true)(U:Bo P t=some (kk*pp.n))(V:ρ x=.pointer (some a))(h:∀j v,ws[j]?=some v->s.cell? (a.add j)=some v):Yl P ⟨d,.load t x,ty,p,af,g⟩ ρ s (.agg ws.toArray):=
 Bm O (by rw[N3 K];exact U) V h
theorem Wk{pp:Rp α}{ws:Lv_}{xs:List α}{xv:α}{m:Int}{wr:Bool}(V:(rA kk pp).r E ws xs)(hm:ix xs m=some xv)
  (ae:ops[i]?=some ⟨d,.index t x y,ty,p,af,g⟩) (hw:AO L ops ⟨d,.index t x y,ty,p,af,g⟩=some true) (ag:Bt b n ⟨d,.index t x y,ty,p,af,g⟩=true)
  (ah:ev L x=some (.agg ws.toArray)) (ai:ev L y=some (.int kd m)) (aj:P.underlying t=some (.array kk e)) (Y:Bo P e=some pp.n) (ak:DZ P e=some wr)
  (h:∀us,pp.r E us xv->JL J Q b n (Az L d (if wr then .agg us.toArray else us.headD undef)) ds (.inRegion ops rest::k) cs s) (al:wr=false->pp.n=1):
  JL J Q b n L ds (.inRegion ops (i::rest)::k) cs s:=by
 let⟨us,h1,am,an,Z⟩:=LG V hm;have hlen:=pp.len h1;have ao:=N3 V;refine Ac ae hw ag (λρ aa=>?_) (h us h1);refine FG (sm:=Instr.index t (ρ x) (ρ y)) rfl ?_;rw[aa _ _ ah,aa _ _ ai];unfold Instr.index;simp only[asIntOf,Ka];refine AG (x:=underlying t) _ (CE aj ?_);simp only[am,an,and_self,lL];refine AG (x:=Go.sizeOf e) _ (EH Y ?_);unfold Go.part;refine AG (x:=isAgg e) _ (LW ak ?_);have aq:m.toNat*pp.n+pp.n<=ws.length:=by
  rw[ao];have:(m.toNat+1)*pp.n<=kk*pp.n:=la _ (by omega);rw[ll] at this;exact this
 cases wr with
 | true=>
  simp only[lL];refine AG (x:=Go.sizeOf e) _ (EH Y ?_);have ap:ws.toArray.extract (m.toNat*pp.n) (m.toNat*pp.n+pp.n)=us.toArray:=by
   apply lf;intro j;by_cases ab:j<us.length;have U:=Z j us[j] (f9 ab);simp only[mI,mX,lM];rw[d5 (by omega),U];simp[ab];rw[kJ (by simp;omega),kJ (by simp;omega)]
  rw[ap];exact⟨rfl,rfl⟩
 | false=>
  have ac:=al rfl;obtain⟨w,rfl⟩:∃w,us=[w]:=by
   match us,hlen with
   | [w],_=>exact⟨w,rfl⟩
   | [],K=>rw[ac] at K;cases K
   | _::_::_,K=>rw[ac] at K;simp at K
  have U:=Z 0 w rfl;simp only[kV,lE,lM];rw[k6] at U;rw[U];exact⟨rfl,rfl⟩
end
theorem OL.Xn{e:TypeId}{pp:Rp α}{E:LH}{a:Option Addr}{xs:List α}{m:Int}{x:α}(K:OL e pp E a c seg xs)(hm:ix xs m=some x):
  ∃bk f ws,a=some ⟨bk,0,none⟩/\seg=[(bk,.cells f e (0,0))]/\pp.r E ws x/\(∀j w,ws[j]?=some w->f[m.toNat*pp.n+j]?=some w):=by
 obtain⟨m,rfl,hm⟩:=FM hm;obtain⟨bk,f,ws,h1,O,U,V,_⟩:=OL.get K hm;exact⟨bk,f,ws,h1,O,U,V⟩
def Hw(S:List Seg):List Nat->Prop
 | []=>True
 | bk::bks=>(∃(j:Nat) (o:Obj),S[j]?=some [(bk,o)])/\Hw S bks
theorem Hw.mem{S:List Seg}:∀{bks:List Nat},Hw S bks->∀bk∈bks,∃(j:Nat) (o:Obj),S[j]?=some [(bk,o)]
 | [],_,_,h=>by cases h
 | b::bks,h,bk,hb=>by
  rcases f7.1 hb with rfl | hb;exact h.1;exact h.2.mem bk hb
variable{bks:List Nat}
theorem Hw.free{E H:LH}{S:List Seg}(h:Hw S bks)(K:Ak E H S):∀x,AW bks x=true->E x=none:=λx O=>by
 obtain⟨j,o,U⟩:=h.mem x (by simpa [AW] using O)
 exact Ml K U
variable{s':St}
section
variable {b:Frame}{n fuel:Nat}
variable {x:Operand}{v:Value}{i:Nat}
theorem HX(m:Nat)(bks:List Nat){id:Nat}(U:Hw S bks)(V:Ak E H S)(hm:P.follows .mixedOrders=true)(K:(b.kind != .early)=true)(O:G3 ops m=true)
  (h:G3 ops m=true->AL J Q b n ds ops k cs m (AW bks) ops.size (Array.replicate ops.size false) L (Ae E H S)):JL J Q b n L ds (.code (.region id ops true)::k) cs (Ae E H S):=
 PI m (AW bks) rfl hm K (h O)
theorem Dc{id o:Nat}{c:Av_}{f:Nat×Nat}{w:Value}(j:Nat)(K:Ak E H S)(O:S[j]?=some [(id,.cells c e f)])(U:AW bks id=true)(V:∀x o,(A2 (AW bks) (Ae E H S)).E x=some o->s'.E x=some o)(hw:c[o]?=some w):s'.cell? ⟨id,o,none⟩=some w:=by
 have h1:(A2 (AW bks) (Ae E H S)).E id=some (.cells c e f):=by
  show(if AW bks id then(Ae E H S).get id else E id)=_
  rw[d5 U];exact Dp (i:=0) K O rfl
 have Y:=V _ _ h1;unfold St.cell? St.get;rw[Y];exact hw
theorem Mt(O:Ak E H S)(U:∀x o,(A2 (AW bks) (Ae E H S)).E x=some o->s'.E x=some o)(V:Hw S bks):∀x o,E x=some o->s'.E x=some o:=λx o K=>U x o (by
 show(if AW bks x then(Ae E H S).get x else E x)=some o
 rw[d7 (λhd=>by rw[V.free O x hd] at K;cases K)];exact K)
end
theorem PE{P:Program}{s:St}{ρ:Operand->Value}{x y:Operand}{d:Option Tmp}{t ty e:TypeId}{p:String}{af:Ae_}{g:On_}{kd:IntKind}{xs:List α}{xv:α}{m:Int}{id:Nat}(hm:ix xs m=some xv)(O:P.underlying t=some (.slice e))(U:Bo P e=some ab)(V:ρ x=.slice (some ⟨id,0,none⟩) xs.length c)(Y:ρ y=.int kd m):
  Yl P ⟨d,.indexAddr t x y,ty,p,af,g⟩ ρ s (.pointer (some ⟨id,m.toNat*ab,none⟩)):=by
 obtain⟨m,rfl,hm⟩:=FM hm;have Z:m<xs.length:=(d8.1 hm).1;have:=LA (P:=P) (s:=s) (d:=d) (ty:=ty) (p:=p) (af:=af) (g:=g) O U V Y ⟨by omega,by omega⟩;rw[DK rfl] at this;simpa using this
def Ij(ws:Lv_)(q:Nat)(us:Lv_):Lv_:=(Bf ws.toArray q us).toList
theorem Ki{ws us:Lv_}{q:Nat}(h:q+us.length<=ws.length)(j:Nat):(Ij ws q us)[j]?=if q<=j/\j<q+us.length then us[j - q]? else ws[j]? :=by
 unfold Ij;rw[lC,Pf us _ q (by simpa using h)];simp
variable{l:Lv_}
theorem No{ws us:Lv_}{q:Nat}(h:q+us.length<=ws.length):Bf (l++ws).toArray (l.length+q) us=(l++Ij ws q us).toArray:=by
 apply lf;intro j;rw[Pf us _ _ (by simp;omega)];simp only[lM];by_cases h1:l.length+q<=j/\j<l.length+q+us.length;rw[d5 h1,kI (by omega),Ki h,d5 (by omega)];congr 1;omega;rw[d7 h1];rcases kC j l.length with K | K;rw[kN K,kN K];rw[kI K,kI K,Ki h,d7 (by omega)]
theorem Tt{E H:LH}{S:List Seg}{id:Nat}{ws:Lv_}{e:TypeId}{f:Nat×Nat}(j:Nat)(K:Ak E H S)(O:S[j]?=some [(id,.cells (l++ws).toArray e f)]):∀q v,ws[q]?=some v->(Ae E H S).cell? (Addr.add ⟨id,l.length,none⟩ q)=some v:=λq v U=>by
 rw[DK rfl]
 refine CB K O ?_
 simp only[lM]
 rw[kI (by omega)]
 rw[show l.length+q - l.length=q by omega];exact U
theorem Qw{pp:Rp α}{E:LH}{ws us:Lv_}{xs:List α}{m:Int}{x y:α}(Z:(rA kk pp).r E ws xs)(hm:ix xs m=some x)(hu:pp.r E us y):(rA kk pp).r E (Ij ws (m.toNat*pp.n) us) (xs.set m.toNat y)/\m.toNat*pp.n+us.length<=ws.length:=by
 have ah:=N3 Z;obtain⟨h0,K,rfl,h1,aa⟩:=Z;obtain⟨m,rfl,hm⟩:=FM hm;have ai:m<xs.length:=(d8.1 hm).1;have ab:=pp.len hu;have aj:=HZ (h1.trans h0.symm) aa;have ac:m*pp.n+us.length<=K.flatten.length:=by
  rw[ah,ab];have:(m+1)*pp.n<=kk*pp.n:=la _ (by omega);rw[ll] at this;exact this
 simp only[Int.toNat_natCast];refine⟨⟨by simpa using h0,K.set m us,?_,by simpa using h1,λi ak al U V=>?_⟩,ac⟩
 .apply lQ;intro j;rw[Ki ac];have key:∀(K:List (Lv_)) (m:Nat) (hm:m<K.length),(∀ws∈K,ws.length=pp.n)->∀j,(K.set m us).flatten[j]?=if m*pp.n<=j/\j<m*pp.n+us.length then us[j - m*pp.n]? else K.flatten[j]? :=by
   intro K
   induction K with
   | nil=>intro m hm;simp at hm
   | cons vs K am=>
    intro m hm ae j;have an:vs.length=pp.n:=ae vs (by simp);cases m with
    | zero=>
     simp only[mB,kT,mq,lz,true_and,l1,np];split;rename_i O;rw[kN O];rename_i O;rw[kI (by omega),kI (by omega),ab,an]
    | succ m=>
     simp only[mC,kT];have Y:(m+1)*pp.n=m*pp.n+pp.n:=ll _ _;rcases kC j vs.length with O | O;rw[kN O,kN O,d7 (by omega)];rw[kI O,kI O,am m (by simpa using hm) (λws ao=>ae ws (kO _ ao))];by_cases ag:m*pp.n<=j - vs.length/\j - vs.length<m*pp.n+us.length;rw[d5 ag,d5 (by omega)];congr 1;omega;rw[d7 ag,d7 (by omega)]
  exact(key K m (by omega) aj j).symm
 .rw [lR] at U V;by_cases Y:m=i;subst Y;rw[d5 rfl,d5 ai] at U;rw[d5 rfl,d5 (by omega)] at V;cases U;cases V;exact hu;rw[d7 Y] at U V;exact aa i ak al U V
theorem QE{pp:Rp α}{E:LH}{w:Value}{x:α}(h:pp.r E [w] x):(rA kk pp).r E (List.replicate kk w) (List.replicate kk x):=by
 refine⟨by simp,List.replicate kk [w],?_,by simp,λi y us K hu=>?_⟩
 .induction kk with
  | zero=>rfl
  | succ k O=>rw[List.replicate_succ,List.replicate_succ,kT,← O];rfl
 .have U:=m5 (kL K);have e2:=m5 (kL hu);subst U e2;exact h
section
variable {b:Frame}{n:Nat}
variable {x:Operand}{i:Nat}
theorem PU{pp:Rp α}{ws:Lv_}{xs:List α}{xv:α}{m:Int}{id o:Nat}(K:(rA kk pp).r E ws xs)(hm:ix xs m=some xv)(O:P.underlying t=some (.array kk e))(U:Bo P e=some pp.n)(V:ρ x=.pointer (some ⟨id,o,none⟩))(Y:ρ y=.int kd m):
  Yl P ⟨d,.indexAddr t x y,ty,p,af,g⟩ ρ s (.pointer (some ⟨id,o+m.toNat*pp.n,none⟩)):=by
 let⟨us,h1,Z,aa,ab⟩:=LG K hm;have:=Ps (P:=P) (s:=s) (d:=d) (ty:=ty) (p:=p) (af:=af) (g:=g) O U V Y ⟨Z,aa⟩;rw[DK rfl] at this;exact this
theorem Pq{id o:Nat}{ws us:Lv_}{v:Value}(j:Nat)(U:ops[i]?=some ⟨d,.store t x y,ty,p,af,g⟩)(hw:AO L ops ⟨d,.store t x y,ty,p,af,g⟩=some true)(V:Bt b n ⟨d,.store t x y,ty,p,af,g⟩=true)(Y:Ak E H S)
  (Z:ev L x=some (.pointer (some ⟨id,l.length+o,none⟩))) (aa:ev L y=some v) (K:v.cells.toList=us) (ab:Bo P t=some us.length) (ac:∀u∈us,A3 u=true) (ae:S[j]?=some [(id,.cells (l++ws).toArray e (0,0))]) (hle:o+us.length<=ws.length)
  (h:Ak E H (S.set j [(id,.cells (l++Ij ws o us).toArray e (0,0))])->JL J Q b n (Az L d undef) ds (.inRegion ops rest::k) cs (Ae E H (S.set j [(id,.cells (l++Ij ws o us).toArray e (0,0))]))):
  JL J Q b n L ds (.inRegion ops (i::rest)::k) cs (Ae E H S):=by
 have ag:v.cells.size=us.length:=by rw[← K];simp
 refine JS.store (v:=v) (off:=l.length+o) j U hw V Y Z aa (by rw[ag];exact ab) (by rw[K];exact ac) ae (by simp;omega) λO=>?_;rw[K,No hle] at O ⊢;exact h O
end
section
variable {x:Operand}{v:Value}
theorem Wx{n:Nat}{kd:IntKind}{a b:Int}(K:P.underlying t=some (.int kd)){Q:Bool->St->Prop}{X:Halt->St->Prop}(k:Q (a==b) s):lp P (Op.equalIn (n+1) t (.int kd a) (.int kd b)) s Q X:=by
 unfold Op.equalIn;refine AG _ _ (CE K ?_);simp only[lL];exact k
end
variable {xt t1 t2:TypeId}{o:Option (Int×Option Int)}
section
variable {x:Operand}{v:Value}
end
def QY{P:Program}(J:Judge P)(v:Value)(args:Av_)(s:St)(R:Value->St->Prop):Prop:=
 ∀(Q:Gs_) (c:Frame) (cs:Lf_),(∀w s',R w s'->J.ok Q (G (c.finish w) cs) s')->
  lp P (do let d ← Deferred.ofValue v args;invoke d.target d.args) s (λnx s'=>match nx with
   | .enter f a=>J.ok Q (G (Frame.enter P f a .normal) (c::cs)) s'
   | .round l f tm as K=>J.ok Q (G (Frame.round l f tm as K .normal) (c::cs)) s'
   | _=>False) (λ_ _=>False)
def He{P:Program}(J:Judge P)(v:Value)(args:Lv_)(E:LH)(B:Seg)(R:Value->LH->Seg->Prop):Prop:=
 ∀H,Nd E H B->QY J v args.toArray (mk E H B) (λv s'=>∃E' B',Le E E'/\R v E' B'/\Nd E' H B'/\s'=mk E' H B')
section
variable {b:Frame}{n i:Nat}
theorem He.ofFn{f:FuncId}{caps vs:Lv_}{B:Seg}(hb:Dd P f=true)(h:Ax J f (vs++caps) E B R):He J (.func (.func f) #[] caps.toArray) vs E B R:=λH K Q c cs O=>by
 simp only[Deferred.ofValue,bind,Sem.bind,pure,invoke]
 have e: #[]++vs.toArray++caps.toArray=(vs++caps).toArray:=by simp
 rw[e];exact Iv hb (h H K Q c cs O)
theorem Sw{x:Operand}{O:Value}{s:St}{vs:Lv_}{R:Value->St->Prop}
  (V:ops[i]?=some ⟨d,.call ⟨.value x,args,ats⟩,ty,p,af,g⟩) (hw:AO L ops ⟨d,.call ⟨.value x,args,ats⟩,ty,p,af,g⟩=some true) (U:((b.kind != .early)&&A5 n d)=true)
  (Y:ev L x=some O) (Z:evs L args.toList=some vs) (aa:QY J O vs.toArray s R) (ab:∀v s',R v s'->JL J Q b n (Az L d v) ds (.inRegion ops rest::k) cs s'):
  JL J Q b n L ds (.inRegion ops (i::rest)::k) cs s:=λT K=>by
 simp only[f5] at U
 have ac:args.map (Bc T)=vs.toArray:=by
  rw[← F6 K.Gi Z];apply lJ;simp
 refine Judge.oper V (BF K hw) (by simpa using U.1) (.inr λc ae=>by cases ae) ?_;have hd:lp P (execOp (Bc T) ⟨d,.call ⟨.value x,args,ats⟩,ty,p,af,g⟩) s (upon J Q b T ds ops i rest k cs d) (MK J Q b T ds ops i rest k cs):=by
  have ag:execOp (Bc T) ⟨d,.call ⟨.value x,args,ats⟩,ty,p,af,g⟩=(do let d ← Deferred.ofValue O vs.toArray;invoke d.target d.args):=by
   simp only[execOp,resolve,ac,K.Gi _ _ Y]
  rw[ag];refine CL _ (aa Q (fr b T ds (.inRegion ops (i::rest)::k)) cs λv s' ah=>?_) (λnx s' h=>?_) (λ_ _ h=>h.elim);rw[F7 (o:=⟨d,.call ⟨.value x,args,ats⟩,ty,p,af,g⟩) _ _ _ _ _ V];exact ab v s' ah _ (K.put U.2 v);cases nx<;>first | exact h | exact h.elim
 exact hd
theorem PL{x:Operand}{O:Value}{vs:Lv_}(j:Nat)
  (ac:He J O vs E seg R) (ae:ops[i]?=some ⟨d,.call ⟨.value x,args,ats⟩,ty,p,af,g⟩) (hw:AO L ops ⟨d,.call ⟨.value x,args,ats⟩,ty,p,af,g⟩=some true) (ag:((b.kind != .early)&&A5 n d)=true)
  (K:ev L x=some O) (ah:evs L args.toList=some vs) (U:Ak E H S) (V:S[j]?=some seg) (ai:∀v E' seg',Le E E'->R v E' seg'->Ak E' H (S.set j seg')->JL J Q b n (Az L d v) ds (.inRegion ops rest::k) cs (Ae E' H (S.set j seg'))):
  JL J Q b n L ds (.inRegion ops (i::rest)::k) cs (Ae E H S):=by
 have Y:S.flatten.Perm (seg++(S.set j []).flatten):=(Db (seg':=seg) V).1.trans kK;have Z:Nd E H (seg++(S.set j []).flatten):=Nd.perm U Y;have aj:Ae E H S=mk E (AS (S.set j []).flatten H) seg:=by
  rw[show Ae E H S=mk E H S.flatten from rfl,Ez U Y];unfold mk;rw[EI]
 rw[aj];refine Sw ae hw ag K ah (ac _ (Nd.front Z)) ?_;rintro v s' ⟨E',B',hle,ak,al,rfl⟩;have e2:mk E' (AS (S.set j []).flatten H) B'=mk E' H (B'++(S.set j []).flatten):=by unfold mk;rw[EI]
 have am:Nd E H (S.set j []).flatten:=by
  have:=Z;rw[Nd.iff] at this ⊢;rw[k7,ls] at this;exact⟨this.1.2.1,λq an=>this.2 q (lB _ an)⟩
 refine Qm rfl λ⟨w,ao⟩=>?_;have ap:Nd E' H (S.set j []).flatten:=am.grow λx K=>by
  have h0:=ao.d x K;have h1:AS B' (AS (S.set j []).flatten H) x=none:=h0;exact(GX h1).1
 have aa:Nd E' H (B'++(S.set j []).flatten):=Nd.glue al ap;rw[e2];have ab:(B'++(S.set j []).flatten).Perm (S.set j B').flatten:=kK.trans (Db V).2.symm;rw[Ez aa ab];exact ai v E' B' hle ak (Nd.perm aa ab)
end
open Go.ConcN (upd upd_ne upd_same)
def BK:Loc->Option Nat | .cell a=>some a.block | .obj r=>some r | _=>none
structure Bh (t:Trace) (w:World) (N:Nat) (S:Nat->St) (Sh:Nat->Prop):Prop where
 fits:∀i,i<N->Fits (S i) w
 hh:∀i j,i<N->j<N->i≠j->∀b,(S i).H b≠none->(S j).H b=none/\(S j).E b=none
 sh:∀i,i<N->∀b,Sh b->(S i).H b=none/\(S i).E b=none
 ED:∀b,Sh b->b<w.heap.size
 clean:∀said,¬Race said t
 low:∀op∈t,op.act.low w.heap.size
 kH:∀i,i<N->∀b,(S i).H b≠none->∀x a,touchAt t x=some a->BK a.loc=some b->Knows t i x
 kE:∀i,i<N->∀b,(S i).E b≠none->∀x a,touchAt t x=some a->BK a.loc=some b->a.write=true->Knows t i x
theorem NB{t:Trace}{x:Nat}{a:Touch}{b n:Nat}(Y:∀op∈t,op.act.low n)(h:touchAt t x=some a)(hb:BK a.loc=some b):b<n:=by
 let⟨op,Z,K⟩:=touch_of h;have O:=Y op (mem_of_getElem? Z);cases U:op.act with
 | access e=>
  rw[U] at K O;simp only[MemAct.touch?,lr] at K;subst K;simp only[MemAct.low] at O;cases V:e.loc with
  | cell ad=>rw[V] at O hb;simp only[BK,lr] at hb;subst hb;exact O
  | obj r=>rw[V] at O hb;simp only[BK,lr] at hb;subst hb;exact O
  | _=>rw[V] at hb;simp[BK] at hb
 | mark m=>
  rw[U] at K O;cases m<;>simp only[MemAct.touch?] at K<;>first
   | (simp at K;done)
   | (simp only[lr] at K;subst K;simp only[BK,lr] at hb;subst hb;exact O)
 | _=>rw[U] at K;simp[MemAct.touch?] at K
variable{w w':World}
theorem I7{s:St}{e:Event}{a:Touch}{b:Nat}(h:Ev s w w' e)(K:(MemAct.ofEvent e).touch?=some a)(hb:BK a.loc=some b):
  Fl s w w' b a.write:=by
 obtain⟨loc,wr,U⟩:=e;cases loc with
 | cell ad=>
  obtain⟨h1,O⟩:=h;simp only at h1;subst h1;simp only[MemAct.ofEvent,MemAct.touch?,lr] at K;subst K;simp only[BK,lr] at hb;subst hb;exact O
 | obj r=>
  obtain⟨h1,O⟩:=h;simp only at h1;subst h1;simp only[MemAct.ofEvent,MemAct.touch?,lr] at K;subst K;simp only[BK,lr] at hb;subst hb;exact O
 | mark m=>
  cases m<;>simp only[Ev] at h<;>first | exact h.elim | simp[MemAct.ofEvent,MemAct.touch?] at K
 | _=>exact h.elim
theorem VU{s:St}{e:Event}(h:Ev s w w' e):(MemAct.ofEvent e).low w'.heap.size:=by
 obtain⟨loc,wr,O⟩:=e;cases loc with
 | cell ad=>obtain⟨h1,K⟩:=h;simp only at h1;subst h1;exact K.1
 | obj r=>obtain⟨h1,K⟩:=h;simp only at h1;subst h1;cases wr<;>exact K.1
 | mark m=>cases m<;>simp only[Ev] at h<;>first | exact h.elim | exact trivial
 | _=>exact h.elim
theorem Rv{l:Loc}(h:l.isMemory=true):∃b,BK l=some b:=by
 cases l<;>simp[Loc.isMemory] at h<;>exact⟨_,rfl⟩
variable{N:Nat}{Sh:Nat->Prop}
theorem Bh.own{t:Trace}{S:Nat->St}(h:Bh t w N S Sh){i:Nat}(hi:i<N){fn:FuncId}{pos:String}{es:Array Event}
  (aw:Fits s' w') (V:Fr (S i) w s' w') (ai:∀e∈es,Ev (S i) w w' e):Bh (t++MemOp.ofEvents i fn pos es) w' N (upd S i s') Sh:=by
 have ap:∀j,j<N->j≠i->∀b o,((S j).H b=some o∨(S j).E b=some o)->w'.heap[b]?=some o/\(S i).H b=none:=by
  intro j U Y b o K;have hw:w.heap[b]?=some o:=K.elim ((h.fits j U).h b o) ((h.fits j U).e b o);have aa:b<w.heap.size:=by
   rcases kC b w.heap.size with al | al;exact al;simp[kJ al] at hw
  have aq:(S i).H b=none:=by
   cases ay:(S i).H b with
   | none=>rfl
   | some u=>
    have:=h.hh i j hi U (kU Y) b (by rw[ay];simp);rcases K with K | K;rw[this.1] at K;cases K;rw[this.2] at K;cases K
  exact⟨by rw[V.keep b aa aq,hw],aq⟩
 have aj:∀j,j<N->∀b,w.heap.size<=b->(S j).H b=none/\(S j).E b=none:=by
  intro j U b hb;constructor
  .cases O:(S j).H b with
   | none=>rfl
   | some o=>have:=(h.fits j U).h b o O;simp[kJ hb] at this
  .cases O:(S j).E b with
   | none=>rfl
   | some o=>have:=(h.fits j U).e b o O;simp[kJ hb] at this
 have ab:∀op∈MemOp.ofEvents i fn pos es,op.g=i/\∃e∈es,op.act=MemAct.ofEvent e:=by
  intro op ab;obtain⟨e,he,rfl⟩:=mem_ofEvents ab;exact⟨rfl,e,he,rfl⟩
 have hold:∀x a,touchAt t x=some a->touchAt (t++MemOp.ofEvents i fn pos es) x=some a:=by
  intro x a O;let⟨op,K,_⟩:=touch_of O;rw[touchAt_old (lt_size_of_getElem? K)];exact O
 have ak:∀x a,touchAt (t++MemOp.ofEvents i fn pos es) x=some a->touchAt t x=some a∨(Knows (t++MemOp.ofEvents i fn pos es) i x/\∃e∈es,(MemAct.ofEvent e).touch?=some a):=by
  intro x a O;let⟨op,K,ar⟩:=touch_of O;rcases getElem?_append_cases K with⟨aa,az⟩ | ⟨_,aA⟩;left;rw[touchAt_of az];exact ar;right;let⟨aB,e,he,ae⟩:=ab op aA;exact⟨by have:=knows_own K;rwa[aB] at this,e,he,by rw[← ae];exact ar⟩
 have aC:∀j,j<N->j≠i->∀b,s'.H b≠none->(S j).H b=none/\(S j).E b=none:=by
  intro j U Y b hb;rcases V.own b hb with O | O;exact h.hh i j hi U (kU Y) b O;exact aj j U b O
 have aD:∀j,j<N->j≠i->∀b,(S j).H b≠none->s'.H b=none/\s'.E b=none:=by
  intro j U Y b hb;have h1:=h.hh j i U hi Y b hb;have aa:¬w.heap.size<=b:=λO=>hb (aj j U b O).1;constructor
  .cases O:s'.H b with
   | none=>rfl
   | some o=>
    rcases V.own b (by rw[O];simp) with y | y;exact absurd h1.1 y;exact absurd y aa
  .cases O:s'.E b with
   | none=>rfl
   | some o=>
    rcases V.Dg b (by rw[O];simp) with y | y | y;exact absurd h1.2 y;exact absurd h1.1 y;exact absurd y aa
 constructor;intro j U;by_cases e:j=i;subst e;rw[upd_same];exact aw;rw[upd_ne _ _ e];exact⟨λb o K=>(ap j U e b o (.inr K)).1,λb o K=>(ap j U e b o (.inl K)).1,(h.fits j U).d⟩;intro a c au ag Y b hb;by_cases e:a=i;subst e;rw[upd_same] at hb;rw[upd_ne _ _ (kU Y)];exact aC c ag (kU Y) b hb;rw[upd_ne _ _ e] at hb;by_cases av:c=i;subst av;rw[upd_same];exact aD a au Y b hb;rw[upd_ne _ _ av];exact h.hh a c au ag Y b hb
 .intro j U b hb;by_cases e:j=i
  .subst e;rw[upd_same];have h1:=h.sh j U b hb;have aa:=h.ED b hb;constructor
   .cases O:s'.H b with
    | none=>rfl
    | some o=>
     rcases V.own b (by rw[O];simp) with y | y;exact absurd h1.1 y;omega
   .cases O:s'.E b with
    | none=>rfl
    | some o=>
     rcases V.Dg b (by rw[O];simp) with y | y | y;exact absurd h1.2 y;exact absurd h1.1 y;omega
  .rw [upd_ne _ _ e];exact h.sh j U b hb
 .exact λb hb=>lb (h.ED b hb) V.size
 .intro said;refine noRace_append (g:=i) (h.clean said) (λop K=>(ab op K).1) λx a O op K c ag aE=>?_;let⟨_,e,he,ae⟩:=ab op K;rw[ae] at ag;obtain⟨aF,hm,ac,_⟩:=aE;let⟨b,hb⟩:=Rv hm;have aG:BK c.loc=some b:=by rw[← aF];exact hb
  have ah:=I7 (ai e he) ag aG;rcases ah.2 with y | y | ⟨y,am⟩;exact h.kH i hi b y x a O hb;have:=NB h.low O hb;omega;rcases ac with z | z;exact h.kE i hi b y x a O hb z;rw[am] at z;cases z
 intro op K;rcases lx.1 K with K | K;exact MemAct.low_mono V.size (h.low op K);let⟨_,e,he,ae⟩:=ab op K;rw[ae];exact VU (ai e he);intro j U b hb x a O Z;by_cases e:j=i;subst e;rw[upd_same] at hb;rcases ak x a O with K | ⟨an,_⟩;rcases V.own b hb with y | y;exact(h.kH j U b y x a K Z).app _;have:=NB h.low K Z;omega;exact an;rw[upd_ne _ _ e] at hb;rcases ak x a O with K | ⟨_,ev,he,ao⟩;exact(h.kH j U b hb x a K Z).app _;have ah:=I7 (ai ev he) ao Z;have h1:=h.hh j i U hi e b hb;rcases ah.2 with y | y | ⟨y,_⟩;exact absurd h1.1 y;exact absurd (aj j U b y).1 hb;exact absurd h1.2 y;intro j U b hb x a O Z ac;by_cases e:j=i;subst e;rw[upd_same] at hb;rcases ak x a O with K | ⟨an,_⟩;rcases V.Dg b hb with y | y | y;exact(h.kE j U b y x a K Z ac).app _;exact(h.kH j U b y x a K Z).app _;have:=NB h.low K Z;omega;exact an;rw[upd_ne _ _ e] at hb;rcases ak x a O with K | ⟨_,ev,he,ao⟩;exact(h.kE j U b hb x a K Z ac).app _;have ah:=I7 (ai ev he) ao Z;rcases ah.2 with y | y | ⟨_,am⟩;exact absurd ((h.hh i j hi U (kU e) b y).2) hb;exact absurd (aj j U b y).2 hb;rw[am] at ac;cases ac
theorem Bh.mute{t u:Trace}{S:Nat->St}(h:Bh t w N S Sh){g:Nat}(hu:∀op∈u,op.g=g)(Y:∀op∈u,op.act.touch?=none)(ab:∀op∈u,op.act.low w'.heap.size)(hw:w'.heap=w.heap):Bh (t++u) w' N S Sh:=by
 have Z:∀x a,touchAt (t++u) x=some a->touchAt t x=some a:=by
  intro x a O;let⟨op,K,U⟩:=touch_of O;rcases getElem?_append_cases K with⟨ah,ac⟩ | ⟨_,ae⟩;rw[touchAt_of ac];exact U;rw[Y op ae] at U;cases U
 exact⟨λi hi=>⟨λb o K=>by rw[hw];exact(h.fits i hi).e b o K,λb o K=>by rw[hw];exact(h.fits i hi).h b o K,(h.fits i hi).d⟩,h.hh,h.sh,λb hb=>by rw[hw];exact h.ED b hb,
  λsaid=>noRace_append (g:=g) (h.clean said) hu (λx a _ op K c aa _=>by rw[Y op K] at aa;cases aa),
  λop K=>(lx.1 K).elim (λK=>by rw[hw];exact h.low op K) (ab op),
  λi hi b hb x a O V=>(h.kH i hi b hb x a (Z x a O) V).app _,λi hi b hb x a O V ag=>(h.kE i hi b hb x a (Z x a O) V ag).app _⟩
theorem Bh.ghost{t:Trace}{S:Nat->St}(h:Bh t w N S Sh){i:Nat}(hi:i<N){s₀:St}(aa:BA (S i) s₀):Bh t w N (upd S i s₀) Sh:=by
 have V:∀b,s₀.H b≠none->(S i).H b≠none:=λb hb=>by let⟨o,ab⟩:=Gv hb;rw[aa.own b o ab];simp
 have ac:∀b,s₀.E b≠none->(S i).E b≠none∨(S i).H b≠none:=λb hb=>by
  let⟨o,ab⟩:=Gv hb;rcases aa.Dg b o ab with x | x;exact .inl (by rw[x];simp);exact .inr (by rw[x.1];simp)
 have Y:∀{x:Option Obj},¬x≠none->x=none:=λh=>mY.1 h;constructor;intro j K;by_cases e:j=i;subst e;rw[upd_same];exact aa.fits (h.fits j K);rw[upd_ne _ _ e];exact h.fits j K;intro a c ae ag Z b hb;by_cases e:a=i;subst e;rw[upd_same] at hb;rw[upd_ne _ _ (kU Z)];exact h.hh a c ae ag Z b (V b hb);rw[upd_ne _ _ e] at hb;by_cases ah:c=i;subst ah;rw[upd_same];have h1:=h.hh a c ae ag Z b hb;exact⟨Y λx=>V b x h1.1,Y λx=>(ac b x).elim (λy=>y h1.2) λy=>y h1.1⟩;rw[upd_ne _ _ ah];exact h.hh a c ae ag Z b hb;intro j K b hb;by_cases e:j=i;subst e;rw[upd_same];have h1:=h.sh j K b hb;exact⟨Y λx=>V b x h1.1,Y λx=>(ac b x).elim (λy=>y h1.2) λy=>y h1.1⟩;rw[upd_ne _ _ e];exact h.sh j K b hb;exact h.ED;exact h.clean;exact h.low;intro j K b hb x a O U;by_cases e:j=i;subst e;rw[upd_same] at hb;exact h.kH j K b (V b hb) x a O U;rw[upd_ne _ _ e] at hb;exact h.kH j K b hb x a O U;intro j K b hb x a O U ai;by_cases e:j=i;subst e;rw[upd_same] at hb;rcases ac b hb with y | y;exact h.kE j K b y x a O U ai;exact h.kH j K b y x a O U;rw[upd_ne _ _ e] at hb;exact h.kE j K b hb x a O U ai
open Go.ConcN (sumTo sumTo_upd)
abbrev St.none:St:=St.quiet
def EP(o o':Os):Prop:=∃d:Nat,o'={o with wall:=o.wall+d,mono:=o.mono+d}
theorem EP.refl(o:Os):EP o o:=⟨0,V⟩
theorem EP.of{o o':Os}(h:o'=o):EP o o':=h▸ .refl o
theorem EP.trans{a b c:Os}(h:EP a b)(k:EP b c):EP a c:=by
 obtain⟨d,rfl⟩:=h;obtain⟨e,rfl⟩:=k;exact⟨d+e,by simp[mf]⟩
def lone(s:St):Nat->St:=λi=>if i=0 then s else St.none
structure F1 (P:Program) (gs:Array Goroutine) (w:World) (t:Trace) (q:Nat->Nat) (Sh:Nat->Prop) (g:Goroutine) (s:St):Prop where
 main:gs[0]?=some g
 lv:Leavers P t gs q
 Bl:Bh t w gs.size (lone s) Sh
 over:t.HandedOver
 hears:Deaf t 0=0
def Reaches(P:Program)(gs:Array Goroutine)(w:World)(sl:Option (Nat×Nat))(t:Trace)(s:St)(K:Gs_):Prop:=
 ∃(n:Nat) (gs':Array Goroutine) (w':World) (U:Option (Nat×Nat)) (O:Trace) (q':Nat->Nat) (V:Nat->Prop) (g':Goroutine) (s':St),
  runNT P n (crowd gs w sl) t=(.next (crowd gs' w' U),O)/\F1 P gs' w' O q' V g' s'/\K g' s'/\Le' s s'/\w'.tape=w.tape/\EP w.os w'.os/\w'.output=w.output
 where
  Le' (s s' : St) : Prop :=∀ b o, s.E b = some o -> s'.E b = some o
theorem PT{s:St}:upd (lone s) 0 s'=lone s':=by
 funext i;unfold upd lone;split<;>rfl
theorem Lu{P:Program}{m m':Machine}{t ops:Trace}{k:Nat}{r:Stepped×Trace}(h:stepT P m=(.next m',ops))(K:runNT P k m' (t++ops)=r):runNT P (k+1) m t=r:=by
 simp only[runNT,h];exact K
theorem F1.at_{P:Program}{gs:Array Goroutine}{t:Trace}{q:Nat->Nat}{g:Goroutine}{s:St}(h:F1 P gs w t q Sh g s)(d:Nat):F1 P gs (w.at d) t q Sh g s:=
 ⟨h.main,h.lv,by
  have:=h.Bl.mute (u:=#[]) (w':=w.at d) (g:=0) (by simp) (by simp) (by simp) rfl
  simpa using this,h.over,h.hears⟩
theorem S1{P:Program}{g:Goroutine}{s:St}{K:Gs_}(au:QC P true g s K):
  ∀(M:Nat) (gs:Array Goroutine) (w:World) (sl:Option (Nat×Nat)) (t:Trace) (q:Nat->Nat) (Sh:Nat->Prop),sumTo gs.size q<=M->F1 P gs w t q Sh g s->Reaches P gs w sl t s K:=by
 intro M
 induction M with
 | zero=>?_
 | succ M aA=>?_
 all_goals
  intro gs w sl t q Sh aP hC;have ai:=au.1;have aB:∀x∈gs,awake x:=by
   intro x ab;obtain⟨i,hi,rfl⟩:=mM.1 ab;rcases k4 i with rfl | aj
   .have:gs[0]=g:=by simpa [kS hi] using hC.main
    rw[this];exact awake_of (.inl ai)
   .exact awake_of ((hC.lv.old i _ aj (kS hi)).status.elim .inl λx=>.inr (.inr x))
  let⟨i,x,d,ac,hi,ab,av⟩:=crowd_pick (P:=P) (w:=w) (sl:=sl) aB ⟨0,g,hC.main,ai⟩;have ak:=hC.at_ d;have al:0<gs.size:=(f4.1 hC.main).1;rcases k4 i with rfl | aj
  .obtain rfl:x=g:=by rw[hC.main] at hi;exact(d0 hi).symm
   have aC:Fits s (w.at d):=ak.Bl.fits 0 al;let⟨g',s',w',es,h1,am,an,Y,ae⟩:=au.2.1 (w.at d) aC;have ao:=runT_crowd_go (P:=P) (sl:=ac) (i:=0) hi (show stepG P (0==0) x (w.at d)=_ from h1);have ag:((gs.map (woken P x g' w')).setIfInBounds 0 g').size=gs.size:=by simp
   have V:∀op∈MemOp.ofEvents 0 x.frame.fn x.frame.place es,op.g=0:=λop O=>by obtain⟨e,_,rfl⟩:=mem_ofEvents O;rfl
   have aD:deafBehind (Deaf t 0) es=Deaf t 0:=deafBehind_still (λe he=>by
    have:=ae e he
    unfold Ev at this
    constructor<;>intro aE<;>rw[aE] at this<;>exact this) _
   refine⟨1,_,w',ac,t++MemOp.ofEvents 0 x.frame.fn x.frame.place es,q,Sh,g',s',Lu (av.trans ao) rfl,⟨by simp[al],⟨λj y U Z=>?_,λj U=>?_⟩,?_,?_,?_⟩,am,Y.ext,Y.tape,.of Y.os,Y.output⟩
   .have ap:0≠j:=by omega
    rw[f6 ap,lV] at Z;obtain⟨z,aq,rfl⟩:=lg.1 Z;have aa:=hC.lv.old j z U aq;rw[woken_quitsD aa,Deaf_other t (by omega) _ V];exact aa
   rw[Deaf_other t (g':=0) (by simp at U;omega) _ V];exact hC.lv.above j (by simpa using U);rw[ag,← PT (s:=s)];exact ak.Bl.own al an (by simpa [lone] using Y) (by simpa [lone] using ae);exact handedOver_app hC.over λop O=>.inl (V op O);rw[Deaf_own,aD];exact hC.hears
  ·
   have aa:=hC.lv.old i x aj hi;have aF:(i==0)=false:=by simp;omega
   have aw:i<gs.size:=(f4.1 hi).1;cases ar:q i with
   | zero=>rw[ar] at aa;rw[aa.1] at ab;cases ab
   | succ k=>
    rw[ar] at aa;rcases aa with⟨aG,_⟩ | ⟨_,x',es,hm,aH,aI⟩;rw[aG] at ab;cases ab
    have aQ:sumTo gs.size (upd q i k)+(k+1)=sumTo gs.size q+k:=by
     have:=sumTo_upd q k id aw;simpa [ar] using this
    first
     | (exfalso;omega)
     | (
      have ao:=runT_crowd_go (P:=P) (sl:=ac) (i:=i) hi (by rw[aF];exact aH (w.at d))
      have ag:((gs.map (woken P x x' (w.at d))).setIfInBounds i x').size=gs.size:=by simp
      have V:∀op∈MemOp.ofEvents i x.frame.fn x.frame.place es,op.g=i:=λop O=>by obtain⟨e,_,rfl⟩:=mem_ofEvents O;rfl
      have ay:∀op∈MemOp.ofEvents i x.frame.fn x.frame.place es,op.act.touch?=none:=λop O=>by obtain⟨e,he,rfl⟩:=mem_ofEvents O;exact touch_mute (hm e he)
      have aJ:F1 P ((gs.map (woken P x x' (w.at d))).setIfInBounds i x') (w.at d) (t++MemOp.ofEvents i x.frame.fn x.frame.place es) (upd q i k) Sh g s:=by
       refine⟨?_,⟨λj y U Z=>?_,λj U=>?_⟩,?_,?_,?_⟩
       .have ap:i≠0:=by omega
        rw[f6 ap,lV,hC.main]
        simp[woken_run ai]
       .by_cases ah:i=j
        .subst ah
         rw[kD (by simpa using aw)] at Z
         obtain rfl:=d0 Z
         rw[upd_same,Deaf_own]
         exact aI
        .rw [f6 ah,lV] at Z
         obtain⟨z,aq,rfl⟩:=lg.1 Z
         have az:=hC.lv.old j z U aq
         rw[woken_quitsD az,upd_ne q k (kU ah),Deaf_other t ah _ V]
         exact az
       .rw [Deaf_other t (g':=i) (by simp at U;omega) _ V]
        exact hC.lv.above j (by simpa using U)
       .rw [ag]
        exact ak.Bl.mute V ay (λop O=>by obtain⟨e,he,rfl⟩:=mem_ofEvents O;exact low_mute (hm e he) _) rfl
       exact handedOver_app hC.over λop O=>.inr (ay op O);rw[Deaf_other t (by omega) _ V];exact hC.hears
      obtain⟨n,gs',w',aK,aL,q',aM,g',s',h1,am,an,Y,ae,aN,aO⟩:=aA _ (w.at d) ac _ _ Sh (by rw[ag];omega) aJ
      exact⟨n+1,gs',w',aK,aL,q',aM,g',s',Lu (av.trans ao) h1,am,an,Y,ae,aN,aO⟩)
def Dv(P:Program):Judge P where
 main:=true
 ok Q g s:=∀gs w sl t q Sh,F1 P gs w t q Sh g s->Reaches P gs w sl t s Q
 stop {Q g s} h:=λgs w sl t q Sh hC=>⟨0,gs,w,sl,t,q,Sh,g,s,rfl,hC,h,λ_ _ h=>h,rfl,.refl _,rfl⟩
 step {Q g s} h:=λgs w sl t q Sh hC=>by
  obtain⟨n,gs',w',K,O,q',U,g',s',h1,V,Y,Z,aa,ab,ac⟩:=S1 h _ gs w sl t q Sh (kG _) hC
  let⟨n',ae,ag,ah,ai,aj,ak,al,am,k1,an,ao,ap,aq,ar,au⟩:=Y gs' w' K O q' U V
  refine⟨n+n',ae,ag,ah,ai,aj,ak,al,am,?_,an,ao,λb o h=>ap b o (Z b o h),aq.trans aa,ab.trans ar,au.trans ac⟩
  rw[runNT_add,h1];exact k1
 trans {Q R g s} h k:=λgs w sl t q Sh hC=>by
  obtain⟨n,gs',w',K,O,q',U,g',s',h1,V,Y,Z,aa,ab,ac⟩:=h gs w sl t q Sh hC
  let⟨n',ae,ag,ah,ai,aj,ak,al,am,k1,an,ao,ap,aq,ar,au⟩:=k g' s' Y gs' w' K O q' U V
  refine⟨n+n',ae,ag,ah,ai,aj,ak,al,am,?_,an,ao,λb o h=>ap b o (Z b o h),aq.trans aa,ab.trans ar,au.trans ac⟩
  rw[runNT_add,h1];exact k1
 ghost {Q g s s₀} av h:=λgs w sl t q Sh hC=>by
  have aw:0<gs.size:=(f4.1 hC.main).1
  have ay:F1 P gs w t q Sh g s₀:=⟨hC.main,hC.lv,by
   rw[← PT (s:=s)];exact hC.Bl.ghost aw (by simpa [lone] using av),hC.over,hC.hears⟩
  obtain⟨n,gs',w',K,O,q',U,g',s',h1,V,Y,Z,aa,ab,ac⟩:=h gs w sl t q Sh ay
  exact⟨n,gs',w',K,O,q',U,g',s',h1,V,Y,λb o h=>Z b o (av.ext b o h),aa,ab,ac⟩
end Pal
namespace Pal
open Go Go.Conc
open Go.ConcN (upd upd_same upd_ne)
variable{i:Nat}
section
variable {t u:Trace}{w w':World}{N:Nat}{S:Nat->St}{Sh:Nat->Prop}
theorem Bh.ext(h:Bh t w N S Sh)(aa:∀said,¬Race said (t++u))(hu:∀op∈u,∀a,op.act.touch?=some a->∀b,BK a.loc=some b->Sh b)
  (ab:∀op∈u,op.act.low w.heap.size) (Y:w'.heap.size=w.heap.size) (hw:∀b,¬Sh b->w'.heap[b]?=w.heap[b]?):Bh (t++u) w' N S Sh:=by
 have hold:∀x a b,touchAt (t++u) x=some a->BK a.loc=some b->¬Sh b->touchAt t x=some a:=by
  intro x a b U hb O;let⟨op,K,Z⟩:=touch_of U;rcases getElem?_append_cases K with⟨ai,ac⟩ | ⟨_,ae⟩;rw[touchAt_of ac];exact Z;exact absurd (hu op ae a Z b hb) O
 have O:∀i,i<N->∀b,((S i).H b≠none∨(S i).E b≠none)->¬Sh b:=by
  intro i hi b hb ag;have:=h.sh i hi b ag;exact hb.elim (λx=>x this.1) (λx=>x this.2)
 refine⟨λi hi=>⟨λb o K=>?_,λb o K=>?_,(h.fits i hi).d⟩,h.hh,h.sh,λb hb=>by rw[Y];exact h.ED b hb,aa,λop K=>?_,λi hi b hb x a U V=>?_,λi hi b hb x a U V ah=>?_⟩;rw[hw b (O i hi b (.inr (by rw[K];simp)))];exact(h.fits i hi).e b o K;rw[hw b (O i hi b (.inl (by rw[K];simp)))];exact(h.fits i hi).h b o K;rcases lx.1 K with K | K;rw[Y];exact h.low op K;rw[Y];exact ab op K;exact(h.kH i hi b hb x a (hold x a b U V (O i hi b (.inl hb))) V).app _;exact(h.kE i hi b hb x a (hold x a b U V (O i hi b (.inr hb))) V ah).app _
theorem Bh.congr{S':Nat->St}(h:Bh t w N S Sh)(K:∀i,i<N->(S' i).E=(S i).E/\(S' i).H=(S i).H):Bh t w N S' Sh:=by
 refine⟨λi hi=>⟨by rw[(K i hi).1];exact(h.fits i hi).e,by rw[(K i hi).2];exact(h.fits i hi).h,by rw[(K i hi).1,(K i hi).2];exact(h.fits i hi).d⟩,λi j hi O U b=>?_,λi hi b=>?_,h.ED,h.clean,h.low,λi hi b=>?_,λi hi b=>?_⟩;rw[(K i hi).2,(K j O).1,(K j O).2];exact h.hh i j hi O U b;rw[(K i hi).1,(K i hi).2];exact h.sh i hi b;rw[(K i hi).2];exact h.kH i hi b;rw[(K i hi).1];exact h.kE i hi b
theorem Bh.less(h:Bh t w N S Sh){s':St}(ac:∀b o,s'.E b=some o->(S i).E b=some o)(ae:∀b o,s'.H b=some o->(S i).H b=some o):Bh t w N (upd S i s') Sh:=by
 have Y:∀j b o,(upd S i s' j).E b=some o->(S j).E b=some o:=by
  intro j b o K;by_cases e:j=i;subst e;rw[upd_same] at K;exact ac b o K;rwa[upd_ne _ _ e] at K
 have e2:∀j b o,(upd S i s' j).H b=some o->(S j).H b=some o:=by
  intro j b o K;by_cases e:j=i;subst e;rw[upd_same] at K;exact ae b o K;rwa[upd_ne _ _ e] at K
 have n1:∀j b,(S j).E b=none->(upd S i s' j).E b=none:=by
  intro j b hb;cases V:(upd S i s' j).E b with
  | none=>rfl
  | some o=>rw[Y j b o V] at hb;cases hb
 have U:∀j b,(S j).H b=none->(upd S i s' j).H b=none:=by
  intro j b hb;cases V:(upd S i s' j).H b with
  | none=>rfl
  | some o=>rw[e2 j b o V] at hb;cases hb
 have p1:∀j b,(upd S i s' j).E b≠none->(S j).E b≠none:=λj b hb x=>hb (n1 j b x);have p2:∀j b,(upd S i s' j).H b≠none->(S j).H b≠none:=λj b hb x=>hb (U j b x);exact⟨λj O=>⟨λb o K=>(h.fits j O).e b o (Y j b o K),λb o K=>(h.fits j O).h b o (e2 j b o K),λb hb=>U j b ((h.fits j O).d b (p1 j b hb))⟩,
  λa c Z aa ab b hb=>⟨U c b (h.hh a c Z aa ab b (p2 a b hb)).1,n1 c b (h.hh a c Z aa ab b (p2 a b hb)).2⟩,
  λj O b hb=>⟨U j b (h.sh j O b hb).1,n1 j b (h.sh j O b hb).2⟩,h.ED,h.clean,h.low,
  λj O b hb=>h.kH j O b (p2 j b hb),λj O b hb=>h.kE j O b (p1 j b hb)⟩
theorem Bh.push(h:Bh t w N S Sh)(hi:i<N){E:LH}(Z:∀b o,E b=some o->(S i).E b=some o)
  (ac:∀b,E b≠none->∀x a,touchAt t x=some a->BK a.loc=some b->a.write=true->Knows t N x):Bh t w (N+1) (upd S N ⟨E,λ_=>none,false⟩) Sh:=by
 have O:∀j,j<N->upd S N ⟨E,λ_=>none,false⟩ j=S j:=λj K=>upd_ne _ _ (by omega);have ag:∀b,E b≠none->(S i).E b≠none:=λb hb=>by obtain⟨o,V⟩:=Gv hb;rw[Z b o V];simp
 have ab:∀b,(S i).E b=none->E b=none:=λb hb=>by
  cases aa:E b with
  | none=>rfl
  | some o=>rw[Z b o aa] at hb;cases hb
 have cs:∀j,j<N+1->j<N∨j=N:=λj K=>by omega
 constructor;intro j K;rcases cs j K with K | rfl;rw[O j K];exact h.fits j K;rw[upd_same];exact⟨λb o V=>(h.fits i hi).e b o (Z b o V),λb o V=>(by cases V),λb _=>rfl⟩
 .intro a c U Y ae b hb;rcases cs a U with U | rfl
  .rw [O a U] at hb;rcases cs c Y with Y | rfl;rw[O c Y];exact h.hh a c U Y ae b hb
   .rw [upd_same];refine⟨rfl,ab b ?_⟩;by_cases e:a=i
    .subst e;cases aa:(S a).E b with
     | none=>rfl
     | some o=>exact absurd ((h.fits a U).d b (by rw[aa];simp)) hb
    .exact(h.hh a i U hi e b hb).2
  .rw [upd_same] at hb;exact absurd rfl hb
 intro j K b hb;rcases cs j K with K | rfl;rw[O j K];exact h.sh j K b hb;rw[upd_same];exact⟨rfl,ab b (h.sh i hi b hb).2⟩;exact h.ED;exact h.clean;exact h.low;intro j K b hb;rcases cs j K with K | rfl;rw[O j K] at hb;exact h.kH j K b hb;rw[upd_same] at hb;exact absurd rfl hb;intro j K b hb;rcases cs j K with K | rfl;rw[O j K] at hb;exact h.kE j K b hb;rw[upd_same] at hb;exact ac b hb
theorem Bh.share(h:Bh t w N S Sh)(hi:i<N){b₀:Nat}{o₀:Obj}(O:(S i).H b₀=some o₀):
  Bh t w N (upd S i {S i with H:=λb=>if b=b₀ then none else(S i).H b}) (λb=>Sh b∨b=b₀):=by
 have h1:Bh t w N (upd S i {S i with H:=λb=>if b=b₀ then none else(S i).H b}) Sh:=
  h.less (λb o K=>K) (λb o K=>by simp only at K;split at K<;>first | (cases K;done) | exact K)
 have Y:b₀<w.heap.size:=by
  have:=(h.fits i hi).h b₀ o₀ O;rcases kC b₀ w.heap.size with U | U;exact U;simp[kJ U] at this
 refine⟨h1.fits,h1.hh,λj V b hb=>?_,λb hb=>hb.elim (h1.ED b) (λe=>e▸Y),h1.clean,h1.low,h1.kH,h1.kE⟩;rcases hb with hb | rfl;exact h1.sh j V b hb
 .by_cases e:j=i
  .subst e;rw[upd_same];refine⟨by simp,?_⟩;cases Z:(S j).E b with
   | none=>rfl
   | some o=>have:=(h.fits j V).d b (by rw[Z];simp);rw[O] at this;cases this
  .rw [upd_ne _ _ e];exact h.hh i j hi V (kU e) b (by rw[O];simp)
end
open Go.ConcN (sumTo sumTo_upd)
abbrev GP:=Gs_
structure M4 where
 l:Bool
 k:Bool
 s:Bool
 w:Nat
instance:DecidableEq M4:=λa b=>decidable_of_iff (a.l=b.l/\a.k=b.k/\a.s=b.s/\a.w=b.w) ⟨λh=>by cases a;cases b;simp_all,λh=>by subst h;simp⟩
def M4.zero:M4:=⟨false,false,false,0⟩
def M4.num(m:M4):Int:=((m.l.toNat+2*m.k.toNat+4*m.s.toNat+8*m.w:Nat):Int)
inductive LP where
 | Ff | Fp | CO (sv aw:Bool) (it:Nat) | BC (sv aw:Bool) (it:Nat) (old:M4) | GF (sv:Bool) | BL (sv:Bool) | Ei | CS (sv:Bool) | CN (ex:Bool) | len | IN | Hb | DF
 | Em | HK | GO | Ih | FW | CY (old:M4) | Ft | Dx (st:Bool) | DC
inductive Ph where
 | Fo (k:Nat) | Fq | HD | Gk | FQ | Gd | D5
 | Co | EB (m:Nat) | FY (v:Nat) | Gq | D6 | FL | EE | EN | Ge
 | El (j:Nat) | GH (j:Nat) | Gj (j:Nat) | Fz (j:Nat) | En (j:Nat) | Fs | Eh (K:List Nat) (vs:Lv_)
 | GM | GN | GI | GQ (j:Nat)
 | lk (k:Nat) (p:LP)
 | B3 (lo:Nat)
inductive Nx where
 | ph (p:Ph) | gone (d:Nat)
structure Fam where
 wg:Nat
 mu:Nat
 fd:Nat
 nx:Nat
 ty:TypeId
 Xv:TypeId
 Xq:TypeId
 n:Nat
 N:Nat
 bad:Nat->Bool
 rel:(Nat->Prop)->Obj->Prop
 fin:GP
namespace Fam
variable (F:Fam)
def has(_:Fam)(_:Nat):Bool:=false
def KK:Int:=4294967296
def Gr(st sm:Int):Obj:=.cells #[.int .u64 st,.int .u32 sm] F.ty (0,0)
def word(v wt:Nat):Int:=(v:Int)*KK+wt
def WG(w:World)(v wt sm:Nat):Prop:=w.heap[F.wg]?=some (F.Gr (word v wt) sm)
def put(w:World)(v wt sm:Nat):World:={w with heap:=w.heap.setIfInBounds F.wg (F.Gr (word v wt) sm)}
def sA:Addr:=⟨F.wg,0,none⟩
def mA:Addr:=⟨F.wg,1,none⟩
def Gp(st sm:Int):Obj:=.cells #[.int .i32 st,.int .u32 sm] F.Xv (0,0)
def MU(w:World)(m:M4)(q:Nat):Prop:=w.heap[F.mu]?=some (F.Gp m.num q)
def Ek(w:World)(m:M4)(q:Nat):World:={w with heap:=w.heap.setIfInBounds F.mu (F.Gp m.num q)}
def uA:Addr:=⟨F.mu,0,none⟩
def qA:Addr:=⟨F.mu,1,none⟩
def IS(c:Nat):Obj:=.cells #[.int .i64 c] F.Xq (0,0)
def NX(w:World)(c:Nat):Prop:=w.heap[F.nx]?=some (F.IS c)
def FV(w:World)(c:Nat):World:={w with heap:=w.heap.setIfInBounds F.nx (F.IS c)}
def nA:Addr:=⟨F.nx,0,none⟩
def FO(w:World)(f:Obj):Prop:=w.heap[F.fd]?=some f
def Gm(w:World)(f:Obj):World:={w with heap:=w.heap.setIfInBounds F.fd f}
def FD(w:World)(f:Obj×Nat):Prop:=F.FO w f.1/\F.NX w f.2
def Br(a:Addr):Event:=⟨.cell a,false,true⟩
def Cx(a:Addr):Event:=⟨.cell a,true,true⟩
def BJ(m:Mark):Event:=⟨.mark m,false,true⟩
def act:Ph->Nat->Nat->Nat->Option ((Nat×Nat×Nat)×Array Event×Nx)
 | .Fq,v,wt,sm=>some ((v,wt,sm),#[BJ (.releaseMerge F.sA)],.ph .HD)
 | .HD,v,wt,sm=>some ((v,wt,sm),#[BJ .disable],.ph .Gk)
 | .Gk,v,wt,sm=>if 1<=v/\v<2147483648/\wt<=1 then some ((v - 1,wt,sm),#[Br F.sA,Cx F.sA],if v=1/\wt=1 then .ph .FQ else .gone 1) else none
 | .FQ,v,wt,sm=>if v=0/\wt=1 then some ((0,1,sm),#[Br F.sA],.ph .Gd) else none
 | .Gd,v,wt,sm=>if v=0/\wt=1 then some ((0,0,sm),#[Cx F.sA],.ph .D5) else none
 | .D5,v,wt,sm=>if sm=0 then some ((v,wt,1),semEvents F.mA,.gone 1) else none
 | .Co,v,wt,sm=>some ((v,wt,sm),#[BJ .disable],.ph (.EB F.n))
 | .EB m,v,wt,sm=>if v<=m/\wt=0 then some ((v,0,sm),#[Br F.sA],if v=0 then .ph .EE else .ph (.FY v)) else none
 | .FY m,v,wt,sm=>if v<=m/\1<=m/\wt=0 then some (if v=m then((v,1,sm),#[Br F.sA,Cx F.sA],.ph .GN) else((v,0,sm),#[Br F.sA],.ph (.EB (m - 1)))) else none
 | .Gq,v,wt,sm=>some ((v,wt,sm),#[BJ (.write F.mA)],.ph .D6)
 | .D6,v,wt,sm=>if sm=1 then some ((v,wt,0),semEvents F.mA,.ph .FL) else none
 | .FL,v,wt,sm=>if v=0/\wt=0 then some ((0,0,sm),#[Br F.sA],.ph .EE) else none
 | .EE,v,wt,sm=>some ((v,wt,sm),#[BJ .enable],.ph .GI)
 | .GM,v,wt,sm=>some ((v,wt,sm),#[],.ph .Fq)
 | .GN,v,wt,sm=>some ((v,wt,sm),#[],.ph .Gq)
 | .GI,v,wt,sm=>some ((v,wt,sm),#[],.ph .EN)
 | .GQ j,v,wt,sm=>some ((v,wt,sm),#[],.ph (.Gj j))
 | .El j,v,wt,sm=>some ((v,wt,sm),#[BJ .disable],.ph (.GH j))
 | .GH j,v,wt,sm=>if v<2147483647/\wt=0 then some ((v+1,0,sm),#[Br F.sA,Cx F.sA],if v=0 then .ph (.GQ j) else .ph (.Fz j)) else none
 | .Gj j,v,wt,sm=>some ((v,wt,sm),#[BJ (.read F.mA)],.ph (.Fz j))
 | .Fz j,v,wt,sm=>some ((v,wt,sm),#[BJ .enable],.ph (.En j))
 | _,_,_,_=>none
abbrev LO:=M4×Nat×Array Event×Option LP
def DO(sv aw:Bool)(it:Nat)(old m:M4)(q:Nat):List LO:=
 (if old.l=true/\old.s=false/\it<4 then
  (if aw=false/\old.k=false/\old.w≠0 then
   [if m=old then({m with k:=true},q,#[Br F.uA,Cx F.uA],some (.CO sv true (it+1))) else(m,q,#[Br F.uA],some (.CO sv aw (it+1)))]
  else [(m,q,#[],some (.BC sv aw (it+1) m))])
 else [])++
 (if m=old then
  (if old.l=false/\old.s=false then [({m with l:=true,k:= !aw&&m.k},q,#[Br F.uA,Cx F.uA],some .len)]
  else [({m with k:= !aw&&m.k,s:=m.s || (sv&&m.l),w:=m.w+1},q,#[Br F.uA,Cx F.uA],some (.GF sv)),({m with k:= !aw&&m.k,s:=m.s || (sv&&m.l),w:=m.w+1},q,#[Br F.uA,Cx F.uA],some (.BL sv))])
 else [(m,q,#[Br F.uA],some (.CO sv aw it))])
def Bn:LP->M4->Nat->List LO
 | .Ff,m,q=>[(m,q,#[BJ .disable],some .Fp)]
 | .Fp,m,q=>if m=M4.zero then [(⟨true,false,false,0⟩,q,#[Br F.uA,Cx F.uA],some .len)] else [(m,q,#[Br F.uA],some (.CO false false 0))]
 | .CO sv aw it,m,q=>[(m,q,#[],some (.BC sv aw it m))]
 | .BC sv aw it old,m,q=>F.DO sv aw it old m q
 | .GF sv,m,q=>[(m,q,#[],some (.BL sv))]
 | .BL sv,m,q=>[(m,q - 1,semEvents F.qA,some (if sv then .CS true else .Ei))]
 | .Ei,m,q=>[(m,q,#[],some (.CS false)),(m,q,#[],some (.CS true))]
 | .CS sv,m,q=>if m.s=true then [(m,q,#[],some (.CN (!sv || m.w==1)))] else [(m,q,#[],some (.BC sv true 0 m))]
 | .CN ex,m,q=>[(⟨true,m.k,!ex,m.w - 1⟩,q,#[Br F.uA,Cx F.uA],some .len)]
 | .len,m,q=>[(m,q,#[BJ .enable],some .IN)]
 | .IN,m,q=>[(m,q,#[],some .Hb)]
 | .Hb,m,q=>[(m,q,#[BJ (.acquire F.uA)],some .DF)]
 | .DF,_,_=>[]
 | .Em,m,q=>[(m,q,#[],some .HK)]
 | .HK,m,q=>[(m,q,#[],some .GO)]
 | .GO,m,q=>[(m,q,#[BJ (.releaseMerge F.uA)],some .Ih)]
 | .Ih,m,q=>[(m,q,#[BJ .disable],some .FW)]
 | .FW,m,q=>[({m with l:=false},q,#[Br F.uA,Cx F.uA],some (if m.s=true then .Dx true else if m.k=false/\m.w≠0 then .CY {m with l:=false} else .DC))]
 | .CY old,m,q=>if m=old then [(⟨false,true,false,old.w - 1⟩,q,#[Br F.uA,Cx F.uA],some (.Dx false))] else [(m,q,#[Br F.uA],some .Ft)]
 | .Ft,m,q=>[(m,q,#[],some (if m.l=false/\m.k=false/\m.s=false/\m.w≠0 then .CY m else .DC))]
 | .Dx _,m,q=>[(m,q+1,semEvents F.qA,some .DC)]
 | .DC,m,q=>[(m,q,#[BJ .enable],none)]
def B2:Ph->Bool
 | .El _ | .GH _ | .Gj _ | .Fz _ | .En _ | .Fs | .Eh _ _ | .GQ _=>true
 | .Co | .EB _ | .FY _ | .Gq | .D6 | .FL | .EE | .EN | .Ge | .GN | .GI=>true
 | _=>false
def BW:Ph->Bool
 | .HD | .Gk | .FQ | .Gd | .D5=>true
 | _=>false
def HL:Ph->St->St
 | .Fq,_=>.quiet
 | _,s=>s
def start(_:Fam)(_:Nat):Ph:=.B3 0
def tk(c:Nat):Ph:=if c<F.N then(if F.bad c=true then .lk c .Ff else .B3 (c+1)) else .GM
def DY(j:Nat):Ph:=if j+1=F.n then .Fs else .El (j+1)
def Cw(j:Nat):Ph:=if j+1=F.n then .Co else .El (j+1)
def Cc(k:Nat):Option LP->Ph
 | some p=>.lk k p
 | none=>.B3 (k+1)
end Fam
def Ck(m:M4):Prop:=m.w<134217728
def Cv:LP->M4->Nat->Prop
 | .BC sv aw it old,m,_=>(aw=true->old.k=true)/\(sv=true->aw=true)/\it<=4/\Ck old/\Ck m/\(aw=true->m.k=true)
 | .CO sv aw it,m,_=>(sv=true->aw=true)/\it<=4/\Ck m/\(aw=true->m.k=true)
 | .BL _,_,q=>q≠0
 | .CS _,m,_=>(m.s=true->m.l=false/\m.k=false/\m.w≠0)/\(m.s=false->m.k=true)/\Ck m
 | .CN ex,m,_=>m.s=true/\m.l=false/\m.k=false/\1<=m.w/\(ex=false->2<=m.w)/\Ck m
 | .FW,m,_=>m.l=true/\Ck m
 | .CY old,m,_=>old.l=false/\old.k=false/\old.s=false/\old.w≠0/\Ck old/\Ck m
 | .Dx _,m,q=>q<=1/\Ck m
 | _,m,_=>Ck m
def Way(P:Program)(main:Bool)(X:GP):GP:=(AF P main).ok X
theorem Jr.Ag{P:Program}{main:Bool}{Q K:GP}(h:∀g s,Q g s->K g s):∀{r:Rk}{g:Goroutine}{s:St},Jr P main Q r g s->Jr P main K r g s
 | .leaf,_,_,x=>h _ _ x
 | .node _,_,_,.inl x=>.inl (h _ _ x)
 | .node _,_,_,.inr ⟨O,x⟩=>.inr ⟨O,λw f=>let ⟨g',s',w',es,h1,U,V⟩:=x w f;⟨g',s',w',es,h1,Jr.Ag h U,V⟩⟩
variable{main:Bool}{g:Goroutine}{s:St}
theorem Way.Ag{P:Program}{Q K:GP}(h:∀g s,Q g s->K g s)(x:Way P main Q g s):Way P main K g s:=
 let ⟨r,O⟩:=x;⟨r,Jr.Ag (λg s ⟨s₀,a,b⟩=>⟨s₀,a,h g s₀ b⟩) O⟩
def Fe(w K w':World):Prop:=w'.heap=K.heap/\w'.tape=w.tape/\EP w.os w'.os/\w'.output=w.output
variable{X:Ph->GP}{p:Ph}
section
variable (P:Program)(F:Fam)
def K3(X:Ph->GP)(main:Bool):Nx->GP
 | .ph p,g,s=>Way P main (X p) g s
 | .gone d,g,_=>∃q,QuitsD P q d g
def Fam.H4(H:LH)(f:Obj):LH:=λb=>if b=F.fd then some f else H b
structure ER (X:Ph->GP) (p:Ph) (g:Goroutine) (s:St):Prop where
 run:g.status=.running
 offers:g.offers=none
 quiet:Fam.BW p=true->s=.quiet
 live:Fam.BW p=false->s.q=false
 act:∀v wt sm v' wt' sm' es nx,F.act p v wt sm=some ((v',wt',sm'),es,nx)->
  ∃g',(∀w,F.WG w v wt sm->stepG P (Fam.B2 p) g w=.go g' (F.put w v' wt' sm') es)/\g'.status=.running/\K3 P X (Fam.B2 p) nx g' (Fam.HL p s)
 GK:(p=.D5∨∃k b,p=.lk k (.Dx b))->mayWake P g=true
 Ds:p=.D6->∀w v wt,F.WG w v wt 0->stepG P true g w=.go {g with status:=.blocked} w #[]
 go:∀j,p=.En j->∃g' child,g'.status=.running/\child.status=.running/\(∀w,stepG P true g w=.spawn g' child w #[])/\Way P false (X (F.start j)) child ⟨s.E,λ_=>none,false⟩/\Way P true (X (F.Cw j)) g' s
 lk:∀k l,p=.lk k l->l≠ .DF->∀w m q,F.MU w m q->Cv l m q->∃m' q' es x g' w',(m',q',es,x)∈F.Bn l m q/\stepG P false g w=.go g' w' es/\Fe w (F.Ek w m' q') w'/\g'.status=.running/\Way P false (X (Fam.Cc k x)) g' s
 BL:∀k sv,p=.lk k (.BL sv)->∀w m,F.MU w m 0->stepG P false g w=.go {g with status:=.blocked} w #[]
 store:∀k,p=.lk k .DF->∃g',g'.status=.running/\(∀w f D,F.FO w f->F.rel D f->∃K es,stepG P false g w=.go g' (F.Gm w K) es/\F.rel (λi=>D i∨i=k) K/\∀e∈es,e.loc=.obj F.fd/\e.sync=false)/\Way P false (X (.lk k .Em)) g' s
 take:∀lo,p=.B3 lo->∀c,lo<=c->c<4611686018427387904->∃g',g'.status=.running/\(∀w,F.NX w c->stepG P false g w=.go g' (F.FV w (c+1)) #[Fam.Br F.nA,Fam.Cx F.nA])/\Way P false (X (F.tk c)) g' s
 fin:p=.EN->∃g',(∀w,stepG P true g w=.go g' w #[Fam.BJ (.acquire F.sA)])/\∀E' f,Le s.E E'->E' F.fd=none->(∀b,E' b≠none->s.H b=none)->F.rel (λi=>i<F.N/\F.bad i=true) f->F.fin g' ⟨E',F.H4 s.H f,false⟩
theorem K3.Ag{K:Ph->GP}(h:∀p g s,X p g s->K p g s){nx:Nx}(x:K3 P X main nx g s):K3 P K main nx g s:=by
 cases nx with
 | ph p=>exact Way.Ag (h p) x
 | gone d=>exact x
theorem ER.Ag{Z:Ph->GP}(h:∀p g s,X p g s->Z p g s)(x:ER P F X p g s):ER P F Z p g s where
 run:=x.run
 offers:=x.offers
 quiet:=x.quiet
 live:=x.live
 act v wt sm v' wt' sm' es nx e:=let ⟨g',h1,K,O⟩:=x.act v wt sm v' wt' sm' es nx e;⟨g',h1,K,O.Ag P h⟩
 GK:=x.GK
 Ds:=x.Ds
 go j e:=let ⟨g',c,h1,K,O,U,V⟩:=x.go j e;⟨g',c,h1,K,O,U.Ag (h _),V.Ag (h _)⟩
 lk k l e Y w m q hm aa:=let ⟨m',q',es,y,g',w',h1,K,O,U,V⟩:=x.lk k l e Y w m q hm aa;⟨m',q',es,y,g',w',h1,K,O,U,V.Ag (h _)⟩
 BL:=x.BL
 store k e:=let ⟨g',K,O,U⟩:=x.store k e;⟨g',K,O,U.Ag (h _)⟩
 take lo e c Y ab:=let ⟨g',K,O,U⟩:=x.take lo e c Y ab;⟨g',K,O,U.Ag (h _)⟩
 fin:=x.fin
def Stop(p:Ph)(g:Goroutine)(s:St):Prop:=∃X:Ph->GP,(∀p g s,X p g s->ER P F X p g s)/\X p g s
variable {P F}
theorem Stop.law(h:Stop P F p g s):ER P F (Stop P F) p g s:=by
 obtain⟨X,O,K⟩:=h;exact(O p g s K).Ag P F λp g s K=>⟨X,O,K⟩
theorem ER.stop(h:ER P F (Stop P F) p g s):Stop P F p g s:=
 ⟨λp g s=>ER P F (Stop P F) p g s,λ_ _ _ x=>x.Ag P F λ_ _ _ y=>y.law,h⟩
end
end Pal
namespace Pal
open Go Go.Conc
open Go.ConcN (upd upd_same upd_ne sumTo sumTo_upd sumTo_upd_out sumTo_congr le_sumTo sumTo_le)
def cU:Nx->Nat
 | .ph (.Fo _) | .ph .GM | .ph .Fq | .ph .HD | .ph .Gk | .ph (.lk _ _) | .ph (.B3 _)=>1
 | _=>0
def cL:Nx->Nat
 | .ph .FQ | .ph .Gd=>1
 | _=>0
def cS:Nx->Nat
 | .ph .D5=>1
 | _=>0
def pend:Nx->Nat
 | .ph (.GQ _) | .ph (.Gj _) | .ph (.Fz _) | .ph (.En _)=>1
 | _=>0
def got:Nx->List Nat
 | .ph (.Eh K _)=>K
 | _=>[]
def Mf:Nx->Prop
 | .gone _=>True
 | _=>False
def Gc(n j:Nat)(c:Bool):Ph->Prop
 | .El K | .GH K | .GQ K | .Gj K | .Fz K | .En K=>K=j/\j<n/\c=false
 | .Fs=>j=n/\c=false
 | .Eh _ _=>j=n/\c=true
 | _=>False
def EL(F:Fam)(k:Nat):Nx->Prop
 | .gone _=>True
 | .ph (.Fo k')=>k'=k/\F.has k=true
 | .ph (.lk _ _) | .ph (.B3 _)=>True
 | .ph .GM | .ph .Fq | .ph .HD | .ph .Gk | .ph .FQ | .ph .Gd | .ph .D5=>True
 | _=>False
def Hz:Nx->Prop
 | .gone _=>True
 | .ph .Co | .ph (.EB _) | .ph (.FY _) | .ph .GN | .ph .Gq | .ph .D6 | .ph .FL | .ph .EE | .ph .GI | .ph .EN | .ph .Ge=>True
 | _=>False
def Ct(x:Nx)(v wt sm L S:Nat)(cl:Bool):Prop:=
 match x with
 | .ph .Co=>L=0/\S=0/\sm=0/\wt=0/\cl=false
 | .ph (.EB m)=>L=0/\S=0/\sm=0/\wt=0/\cl=false/\v<=m
 | .ph (.FY m)=>L=0/\S=0/\sm=0/\wt=0/\cl=false/\v<=m/\1<=m
 | .ph .GN | .ph .Gq | .ph .D6=>L+S+sm+min v 1=1/\wt=L+min v 1/\cl=false
 | .ph .FL | .ph .EE | .ph .GI | .ph .EN | .ph .Ge=>L=0/\S=0/\sm=0/\wt=0/\v=0/\cl=false
 | .gone _=>L=0/\S=0/\sm=0/\wt=0/\v=0/\cl=true
 | _=>False
structure BR (F:Fam) (N0 N j:Nat) (c:Bool) (φ:Nat->Nx) (v wt sm:Nat) (cl:Bool):Prop where
 pos:0<N0
 n1:1<=F.n
 F3:F.n<2147483647
 size:N=N0+j+c.toNat
 jn:j<=F.n
 cj:c=true->j=F.n
 main:∃p,φ 0=.ph p/\Gc F.n j c p
 old:∀i,0<i->i<N0->Mf (φ i)
 work:∀k,k<j->EL F k (φ (N0+k))
 cls:c=true->Hz (φ (N0+F.n))
 cnt:v=sumTo N (λi=>cU (φ i))+pend (φ 0)
 Ip:v<=j+pend (φ 0)
 mode:Ct (if c=true then φ (N0+F.n) else .ph .Co) v wt sm (sumTo N λi=>cL (φ i)) (sumTo N λi=>cS (φ i)) cl
 IU:∀k,k<j->F.has k=true->(φ (N0+k)=.ph (.Fo k)↔k ∉ got (φ 0))
 nd:(got (φ 0)).Nodup
 sub:∀k∈got (φ 0),k<j/\F.has k=true
variable{i:Nat}{x:Nx}{p:Ph}
section
variable {F:Fam}{N0 N j:Nat}{c:Bool}{φ:Nat->Nx}{v wt sm v' wt' sm':Nat}{cl cl':Bool}
theorem BR.EO(h:BR F N0 N j c φ v wt sm cl)(hi:i<N):i=0∨(0<i/\i<N0)∨(∃k,k<j/\i=N0+k)∨(c=true/\i=N0+F.n):=by
 have:=h.size;rcases k4 i with h0 | h0;exact .inl h0
 rcases kC i N0 with h1 | h1;exact .inr (.inl ⟨h0,h1⟩)
 rcases kC i (N0+j) with O | O;exact .inr (.inr (.inl ⟨i - N0,by omega,by omega⟩))
 .cases K:c with
  | false=>rw[K] at this;simp at this;omega
  | true=>have e:=h.cj K;rw[K] at this;simp at this;exact .inr (.inr (.inr ⟨rfl,by omega⟩))
theorem BR.Ot(h:BR F N0 N j c φ v wt sm cl):v<=F.n:=by
 have h1:=h.Ip;obtain⟨p,K,hm⟩:=h.main;have:=h.jn;rw[K] at h1;cases p<;>simp[Gc] at hm<;>simp[pend] at h1<;>omega
theorem BR.Gl(h:BR F N0 N j c φ v wt sm cl){k:Nat}(aa:k<j)(ab:EL F k x)(ac:∀k',φ (N0+k)≠ .ph (.Fo k'))(ae:∀k',x≠ .ph (.Fo k'))
  (an:v'+cU (φ (N0+k))=v+cU x)
  (hm:∀L S,L+cL (φ (N0+k))=(sumTo N λi=>cL (φ i))+cL x->S+cS (φ (N0+k))=(sumTo N λi=>cS (φ i))+cS x->Ct (if c=true then φ (N0+F.n) else .ph .Co) v' wt' sm' L S cl'):
  BR F N0 N j c (upd φ (N0+k) x) v' wt' sm' cl':=by
 have ao:=h.size;have ap:=h.jn;have aq:=h.pos;have V:N0+k<N:=by omega
 have K:upd φ (N0+k) x 0=φ 0:=upd_ne _ _ (by omega);have ag:(if c=true then upd φ (N0+k) x (N0+F.n) else .ph .Co)=(if c=true then φ (N0+F.n) else .ph .Co):=by
  cases O:c with
  | false=>rfl
  | true=>have:=h.cj O;simp only[lL];exact upd_ne _ _ (by omega)
 have s1:=sumTo_upd φ x cU V;have s2:=sumTo_upd φ x cL V;have ah:=sumTo_upd φ x cS V;have ar:=h.cnt;have au:=h.Ip;refine⟨h.pos,h.n1,h.F3,h.size,h.jn,h.cj,by rw[K];exact h.main,λi h1 ai=>by rw[upd_ne _ _ (by omega)];exact h.old i h1 ai,λk' U=>?_,λO=>?_,by rw[K];omega,?_,?_,λk' U hh=>?_,by rw[K];exact h.nd,by rw[K];exact h.sub⟩;by_cases e:k'=k;subst e;rw[upd_same];exact ab;rw[upd_ne _ _ (by omega)];exact h.work k' U;have:=h.cj O;rw[upd_ne _ _ (by omega)];exact h.cls O
 .rw [K];have:cU x<=1:=by cases x with
   | gone d=>simp[cU]
   | ph p=>cases p<;>simp[cU]
  have hw:=h.work k aa;have key:cU x<=cU (φ (N0+k))∨cU (φ (N0+k))<cU x:=by omega
  rcases key with hle | av;omega
  ·
   have:(sumTo N λa=>cU (upd φ (N0+k) x a))<=j:=by
    have hb:∀M,M<=N->(sumTo M λa=>cU (upd φ (N0+k) x a))<=min (M - N0) j:=by
     intro M
     induction M with
     | zero=>intro _;simp[sumTo]
     | succ M aj=>
      intro aw;have:=aj (by omega);simp only[sumTo];have ay:cU (upd φ (N0+k) x M)<=1:=by
       generalize upd φ (N0+k) x M=y;cases y with
       | gone d=>simp[cU]
       | ph p=>cases p<;>simp[cU]
      have Z:(M<N0∨N0+j<=M)->cU (upd φ (N0+k) x M)=0:=by
       intro az;rw[upd_ne _ _ (by omega)];rcases h.EO (i:=M) (by omega) with rfl | ⟨a,b⟩ | ⟨k',a,rfl⟩ | ⟨a,rfl⟩;obtain⟨p,ak,hm⟩:=h.main;rw[ak];cases p<;>simp[Gc] at hm<;>rfl
       .have:=h.old M a b;cases Y:φ M with
        | gone d=>rfl
        | ph p=>rw[Y] at this;exact this.elim
       .omega
       .have:=h.cls a;cases Y:φ (N0+F.n) with
        | gone d=>rfl
        | ph p=>rw[Y] at this;cases p<;>simp[Hz] at this<;>rfl
      rcases kC M N0 with q | q;rw[Z (.inl q)];omega;rcases kC M (N0+j) with q' | q';omega;rw[Z (.inr q')];omega
    have:=hb N (kG _);omega
   omega
 rw[ag];exact hm _ _ s2 ah;rw[K];by_cases e:k'=k;subst e;rw[upd_same];have:=h.IU k' U hh;constructor;intro al;exact absurd al (ae k');intro am;exact absurd (this.2 am) (ac k');rw[upd_ne _ _ (by omega)];exact h.IU k' U hh
theorem BR.Gn(h:BR F N0 N j c φ v wt sm cl)(O:c=true)(Y:Hz x)
  (hm:Ct x v wt' sm' (sumTo N λi=>cL (φ i)) (sumTo N λi=>cS (φ i)) cl'):
  BR F N0 N j c (upd φ (N0+F.n) x) v wt' sm' cl':=by
 have Z:=h.size;have ae:=h.pos;have ag:=h.cj O;have U:N0+F.n<N:=by rw[O] at Z;simp at Z;omega
 have K:upd φ (N0+F.n) x 0=φ 0:=upd_ne _ _ (by omega);have z:∀y,Hz y->cU y=0/\cL y=0/\cS y=0:=by
  intro y aa;cases y with
  | gone d=>exact⟨rfl,rfl,rfl⟩
  | ph p=>cases p<;>simp[Hz] at aa<;>exact⟨rfl,rfl,rfl⟩
 have z1:=z _ (h.cls O);have ah:=z x Y;have s1:=sumTo_upd φ x cU U;have s2:=sumTo_upd φ x cL U;have ai:=sumTo_upd φ x cS U;have aj:=h.cnt;refine⟨h.pos,h.n1,h.F3,h.size,h.jn,h.cj,by rw[K];exact h.main,λi h1 ab=>by rw[upd_ne _ _ (by omega)];exact h.old i h1 ab,λk' V=>?_,λO=>?_,by rw[K];omega,by rw[K];exact h.Ip,?_,λk' V hh=>?_,by rw[K];exact h.nd,by rw[K];exact h.sub⟩;rw[upd_ne _ _ (by omega)];exact h.work k' V;rw[upd_same];exact Y
 .rw [d5 O,upd_same];have e2:(sumTo N λi=>cL (upd φ (N0+F.n) x i))=sumTo N λi=>cL (φ i):=by omega
  have ac:(sumTo N λi=>cS (upd φ (N0+F.n) x i))=sumTo N λi=>cS (φ i):=by omega
  rw[e2,ac];exact hm
 .rw [K,upd_ne _ _ (by omega)];exact h.IU k' V hh
theorem Pl{n j:Nat}{c:Bool}(h:Gc n j c p):cU (.ph p)=0/\cL (.ph p)=0/\cS (.ph p)=0:=by
 cases p<;>simp[Gc] at h<;>exact⟨rfl,rfl,rfl⟩
theorem BR.JH(h:BR F N0 N j c φ v wt sm cl)(V:Gc F.n j c p)(K:got (.ph p)=got (φ 0))(ah:v'+pend (φ 0)=v+pend (.ph p))(Y:v'<=j+pend (.ph p))
  (hm:Ct (if c=true then φ (N0+F.n) else .ph .Co) v' wt' sm' (sumTo N λi=>cL (φ i)) (sumTo N λi=>cS (φ i)) cl'):
  BR F N0 N j c (upd φ 0 (.ph p)) v' wt' sm' cl':=by
 have ai:=h.size;have aj:=h.pos;have O:0<N:=by omega
 obtain⟨ak,Z,aa⟩:=h.main;have z1:=Pl aa;have al:=Pl V;rw[← Z] at z1;have s1:=sumTo_upd φ (.ph p) cU O;have s2:=sumTo_upd φ (.ph p) cL O;have am:=sumTo_upd φ (.ph p) cS O;have an:=h.cnt;have ab:(if c=true then upd φ 0 (.ph p) (N0+F.n) else .ph .Co)=(if c=true then φ (N0+F.n) else .ph .Co):=by rw[upd_ne _ _ (by omega)]
 refine⟨h.pos,h.n1,h.F3,h.size,h.jn,h.cj,⟨p,upd_same _ _ _,V⟩,λi h1 ac=>by rw[upd_ne _ _ (by omega)];exact h.old i h1 ac,λk' U=>by rw[upd_ne _ _ (by omega)];exact h.work k' U,λae=>by rw[upd_ne _ _ (by omega)];exact h.cls ae,by rw[upd_same];omega,by rw[upd_same];exact Y,?_,λk' U hh=>?_,by rw[upd_same,K];exact h.nd,by rw[upd_same,K];exact h.sub⟩
 .rw [ab];have e2:(sumTo N λi=>cL (upd φ 0 (.ph p) i))=sumTo N λi=>cL (φ i):=by omega
  have ag:(sumTo N λi=>cS (upd φ 0 (.ph p) i))=sumTo N λi=>cS (φ i):=by omega
  rw[e2,ag];exact hm
 .rw [upd_same,K,upd_ne _ _ (by omega)];exact h.IU k' U hh
theorem BR.act(h:BR F N0 N j c φ v wt sm cl)(hi:i<N)(K:φ i=.ph p){es:Array Event}{nx:Nx}(O:F.act p v wt sm=some ((v',wt',sm'),es,nx)):
  BR F N0 N j c (upd φ i nx) v' wt' sm' cl:=by
 have U:=h.mode;have ap:=h.Ot;rcases h.EO hi with rfl | ⟨a,b⟩ | ⟨k,ah,rfl⟩ | ⟨Z,rfl⟩
 ·
  obtain⟨ak,ao,ai⟩:=h.main;have:ak=p:=by rw[ao] at K;exact Nx.ph.inj K
  subst this;have ar:∀q,Gc F.n j c q->(∀aq vs,q≠ .Eh aq vs)->c=false:=by
   intro q al am;cases q<;>simp[Gc] at al<;>first | exact al.2.2 | exact al.2 | exact absurd rfl (am _ _)
  have ae:=h.Ip;cases ak<;>simp only[Gc] at ai<;>(try exact ai.elim)<;>simp only[Fam.act] at O<;>(try (cases O;done));cases O;obtain⟨rfl,ag,rfl⟩:=ai;exact h.JH (p:=.GH _) ⟨rfl,ag,rfl⟩ (by rw[K];rfl) (by rw[K];rfl) (by rw[K] at ae;exact ae) (by simpa [Ct] using U);split at O;rename_i aa;cases O;obtain⟨rfl,ag,rfl⟩:=ai;rw[K] at ae;simp only[pend,k6] at ae;simp only[kV,lE,Ct] at U;split;exact h.JH (p:=.GQ _) ⟨rfl,ag,rfl⟩ (by rw[K];rfl) (by rw[K];simp[pend]) (by simp[pend];omega) ⟨U.1,U.2.1,U.2.2.1,rfl,U.2.2.2.2⟩;exact h.JH (p:=.Fz _) ⟨rfl,ag,rfl⟩ (by rw[K];rfl) (by rw[K];simp[pend]) (by simp[pend];omega) ⟨U.1,U.2.1,U.2.2.1,rfl,U.2.2.2.2⟩;cases O;cases O;obtain⟨rfl,ag,rfl⟩:=ai;exact h.JH (p:=.Fz _) ⟨rfl,ag,rfl⟩ (by rw[K];rfl) (by rw[K];rfl) (by rw[K] at ae;exact ae) (by simpa [Ct] using U);cases O;obtain⟨rfl,ag,rfl⟩:=ai;exact h.JH (p:=.En _) ⟨rfl,ag,rfl⟩ (by rw[K];rfl) (by rw[K];rfl) (by rw[K] at ae;exact ae) (by simpa [Ct] using U);cases O;obtain⟨rfl,ag,rfl⟩:=ai;exact h.JH (p:=.Gj _) ⟨rfl,ag,rfl⟩ (by rw[K];rfl) (by rw[K];rfl) (by rw[K] at ae;exact ae) (by simpa [Ct] using U)
 .have:=h.old i a b;rw[K] at this;exact this.elim
 ·
  have hw:=h.work k ah;rw[K] at hw;have au:∀q k',q=Nx.ph p->(∀k',p≠ .Fo k')->q≠ .ph (.Fo k'):=by
   rintro q k' rfl am e;exact am k' (Nx.ph.inj e)
  cases p<;>simp only[EL] at hw<;>(try exact hw.elim)<;>simp only[Fam.act] at O<;>(try (cases O;done));cases O;refine h.Gl ah (x:=.ph .HD) trivial (λk'=>by rw[K];simp) (by simp) (by rw[K];rfl) λL S V Y=>?_;rw[K] at V Y;simp only[cL,cS,k6] at V Y;subst V Y;exact U;cases O;refine h.Gl ah (x:=.ph .Gk) trivial (λk'=>by rw[K];simp) (by simp) (by rw[K];rfl) λL S V Y=>?_;rw[K] at V Y;simp only[cL,cS,k6] at V Y;subst V Y;exact U
  .split at O
   .rename_i aa;cases O;have aj:∀y ab ac L S,y=(if c=true then φ (N0+F.n) else .ph .Co)->Ct y v wt sm ab ac cl->(if v=1/\wt=1 then L=ab+1 else L=ab)->S=ac->Ct y (v - 1) wt sm L S cl:=by
     intro y ab ac L S av hm V Y;cases y with
     | gone d=>simp only[Ct] at hm ⊢;split at V<;>omega
     | ph q=>
      cases q<;>simp only[Ct] at hm ⊢<;>(try exact hm)<;>(try (split at V<;>omega));split at V;exfalso;omega;exact⟨by omega,by omega,by omega,by omega,hm.2.2.2.2⟩;split at V;exfalso;omega;exact⟨by omega,by omega,by omega,by omega,hm.2.2.2.2.1,by omega⟩;split at V;exfalso;omega;exact⟨by omega,by omega,by omega,by omega,hm.2.2.2.2.1,by omega,by omega⟩;split at V;exact⟨by omega,by omega,hm.2.2⟩;exact⟨by omega,by omega,hm.2.2⟩;split at V;exact⟨by omega,by omega,hm.2.2⟩;exact⟨by omega,by omega,hm.2.2⟩;split at V;exact⟨by omega,by omega,hm.2.2⟩;exact⟨by omega,by omega,hm.2.2⟩
    split;rename_i h1;refine h.Gl ah (x:=.ph .FQ) trivial (λk'=>by rw[K];simp) (by simp) (by rw[K];simp[cU];omega) λL S V Y=>?_;rw[K] at V Y;simp only[cL,cS,k6] at V Y;exact aj _ _ _ L S rfl U (by rw[d5 h1];exact V) Y;rename_i h1;refine h.Gl ah (x:=.gone 1) trivial (λk'=>by rw[K];simp) (by simp) (by rw[K];simp[cU];omega) λL S V Y=>?_;rw[K] at V Y;simp only[cL,cS,k6] at V Y;exact aj _ _ _ L S rfl U (by rw[d7 h1];exact V) Y
   .cases O
  .split at O
   .rename_i aa;cases O;refine h.Gl ah (x:=.ph .Gd) trivial (λk'=>by rw[K];simp) (by simp) (by rw[K];simp[cU];omega) λL S V Y=>?_;rw[K] at V Y;simp only[cL,cS,k6] at V Y;have e:L=sumTo N λi=>cL (φ i):=by
     have aw:L+1=(sumTo N λi=>cL (φ i))+1:=V;omega
    obtain⟨h1,an⟩:=aa;subst e Y h1 an;exact U
   .cases O
  .split at O
   .rename_i aa;cases O;obtain⟨h1,an⟩:=aa;subst h1 an;refine h.Gl ah (x:=.ph .D5) trivial (λk'=>by rw[K];simp) (by simp) (by rw[K];simp[cU]) λL S V Y=>?_;rw[K] at V Y;simp only[cL,cS,k6] at V Y;have aj:∀y ab ac,Ct y 0 1 sm ab ac cl->L+1=ab->S=ac+1->Ct y 0 0 sm L S cl:=by
     intro y ab ac hm V Y;cases y with
     | gone d=>simp only[Ct] at hm ⊢;omega
     | ph q=>
      cases q<;>simp only[Ct] at hm ⊢<;>(try exact hm)<;>(try (exfalso;omega));exact⟨by omega,by omega,hm.2.2⟩;exact⟨by omega,by omega,hm.2.2⟩;exact⟨by omega,by omega,hm.2.2⟩
    exact aj _ _ _ U V Y
   .cases O
  .split at O
   .rename_i aa;cases O;subst aa;refine h.Gl ah (x:=.gone 1) trivial (λk'=>by rw[K];simp) (by simp) (by rw[K];simp[cU]) λL S V Y=>?_;rw[K] at V Y;simp only[cL,cS,k6] at V Y;have aj:∀y ab ac,Ct y v wt 0 ab ac cl->L=ab->S+1=ac->Ct y v wt 1 L S cl:=by
     intro y ab ac hm V Y;cases y with
     | gone d=>simp only[Ct] at hm ⊢;omega
     | ph q=>
      cases q<;>simp only[Ct] at hm ⊢<;>(try exact hm)<;>(try (exfalso;omega));exact⟨by omega,by omega,hm.2.2⟩;exact⟨by omega,by omega,hm.2.2⟩;exact⟨by omega,by omega,hm.2.2⟩
    exact aj _ _ _ U V Y
   .cases O
  .cases O;refine h.Gl ah (x:=.ph .Fq) trivial (λk'=>by rw[K];simp) (by simp) (by rw[K];rfl) λL S V Y=>?_;rw[K] at V Y;simp only[cL,cS,k6] at V Y;subst V Y;exact U
 ·
  have hw:=h.cls Z;rw[d5 Z,K] at U;rw[K] at hw;obtain⟨ak,ao,ai⟩:=h.main;cases p<;>simp only[Hz] at hw<;>(try exact hw.elim)<;>simp only[Fam.act] at O<;>(try (cases O;done))<;>simp only[Ct] at U;cases O;exact h.Gn Z (x:=.ph (.EB F.n)) trivial ⟨U.1,U.2.1,U.2.2.1,U.2.2.2.1,U.2.2.2.2,ap⟩;split at O;rename_i m aa;cases O;split;exact h.Gn Z (x:=.ph .EE) trivial ⟨U.1,U.2.1,U.2.2.1,rfl,by assumption,U.2.2.2.2.1⟩;exact h.Gn Z (x:=.ph (.FY _)) trivial ⟨U.1,U.2.1,U.2.2.1,rfl,U.2.2.2.2.1,kG _,by omega⟩;cases O;split at O;rename_i m aa;split at O;cases O;exact h.Gn Z (x:=.ph .GN) trivial ⟨by omega,by omega,U.2.2.2.2.1⟩;cases O;exact h.Gn Z (x:=.ph (.EB _)) trivial ⟨U.1,U.2.1,U.2.2.1,rfl,U.2.2.2.2.1,by omega⟩;cases O;cases O;exact h.Gn Z (x:=.ph .D6) trivial U;split at O;rename_i aa;cases O;exact h.Gn Z (x:=.ph .FL) trivial ⟨by omega,by omega,rfl,by omega,by omega,U.2.2⟩;cases O;split at O;rename_i aa;obtain⟨rfl,rfl⟩:=aa;cases O;exact h.Gn Z (x:=.ph .EE) trivial U;cases O;cases O;exact h.Gn Z (x:=.ph .GI) trivial U;cases O;exact h.Gn Z (x:=.ph .Gq) trivial U;cases O;exact h.Gn Z (x:=.ph .EN) trivial U
end
end Pal
