/- TopRented is true for every input: if each string that is put owes the steward a pound for each place: a part (1 of 8) of the proof of its row. -/
import Derived.Conc.Own5
import Derived.Conc.Listed
import Derived.Conc.DeferLaws
import Derived.Orders
import Derived.Conc.Beside
set_option linter.all false
set_option maxRecDepth 100000
namespace Pal
open Go Go.Conc
theorem V{α:Sort _}{a:α}:a=a:=rfl
abbrev d0:=@List.getElem?_eq_some_iff
abbrev d3:=@List.getElem?_eq_getElem
abbrev d4:=@Array.getElem?_eq_some_iff
abbrev d5:=@if_pos
abbrev d6:=@Option.some.inj
abbrev d7:=@if_neg
abbrev d9:=@Array.getElem?_setIfInBounds_ne
abbrev f4:=@Array.getD_eq_getD_getElem?
abbrev f5:=@Bool.and_eq_true
abbrev f6:=@List.perm_append_comm
abbrev f7:=@Nat.le_of_ble_eq_true
abbrev f9:=@Array.getElem?_eq_getElem
abbrev k7:=@List.getElem_mem
abbrev k8:=@List.getElem?_append_right
abbrev k9:=@Array.getElem?_setIfInBounds_self_of_lt
abbrev la:=@Nat.le_refl
abbrev lb:=@Nat.lt_or_ge
abbrev lc:=@List.mem_cons_of_mem
abbrev ld:=@Bool.false_eq_true
abbrev lf:=@List.append_nil
abbrev lg:=@List.getElem?_append_left
abbrev lh:=@List.flatten_cons
abbrev li:=@List.mem_cons
abbrev lj:=@List.perm_middle
abbrev lk:=@Array.getElem?_eq_none
abbrev ll:=@List.mem_of_getElem?
abbrev lm:=@List.mem_append
abbrev lq:=@congrArg
abbrev lr:=@List.length_append
abbrev ls:=@List.append_assoc
abbrev lu:=@Ne.symm
abbrev lw:=@List.mem_iff_getElem?
abbrev lx:=@List.nil_append
abbrev lz:=@Nat.mul_le_mul_right
abbrev lA:=@List.getElem?_toArray
abbrev lB:=@List.getElem?_eq_none
abbrev lC:=@List.length_cons
abbrev lD:=@List.eq_nil_of_length_eq_zero
abbrev lE:=@List.all_eq_true
abbrev lF:=@List.ext_getElem?
abbrev lG:=@List.nodup_append
abbrev lH:=@Option.bind_eq_some_iff
abbrev lI:=@List.mem_append_right
abbrev lJ:=@Option.map_eq_some_iff
abbrev lK:=@if_false
abbrev lL:=@List.map_append
abbrev lM:=@Array.getElem?_append_left
abbrev lN:=@Array.getElem?_toList
abbrev lO:=@List.mem_range
abbrev lP:=@Option.some.injEq
abbrev lQ:=@if_true
abbrev lR:=@Array.ext'
abbrev lS:=@List.take_add_one
abbrev lT:=@Nat.add_zero
abbrev lU:=@Nat.succ_mul
abbrev lV:=@List.Perm.refl
abbrev lW:=@Option.map_some
abbrev lX:=@List.cons_append
abbrev lY:=@List.eq_of_mem_replicate
abbrev lZ:=@List.mem_toArray
abbrev l3:=@List.not_mem_nil
abbrev l4:=@List.getElem?_cons_zero
abbrev l5:=@List.getElem?_take
abbrev l6:=@Bool.or_eq_true
abbrev l7:=@List.getElem?_set_ne
abbrev l8:=@List.getElem?_map
abbrev l9:=@List.length_set
abbrev ma:=@List.mem_append_left
abbrev mb:=@List.take_length
abbrev mc:=@Nat.add_assoc
abbrev me:=@List.take_of_length_le
abbrev mf:=@List.flatten_append
abbrev mg:=@Classical.choose_spec
abbrev mh:=@Nat.lt_of_lt_of_le
abbrev mi:=@Array.mem_append
abbrev mj:=@Nat.eq_zero_or_pos
abbrev ml:=@Nat.add_mul
abbrev mn:=@decide_eq_true
abbrev mo:=@List.length_eq_zero_iff
abbrev mp:=@decide_eq_false
abbrev mq:=@Array.getElem?_append_right
abbrev mr:=@List.mem_map
abbrev mt:=@List.mem_flatten
abbrev mv:=@List.flatten_nil
abbrev mw:=@Array.ext_getElem?
abbrev my:=@Array.mapM_eq_mapM_toList
abbrev mz:=@Nat.zero_le
abbrev mB:=@Nat.le_trans
abbrev mC:=@Nat.zero_mul
abbrev mD:=@Nat.zero_add
abbrev mE:=@List.size_toArray
abbrev mF:=@List.getElem?_set
abbrev mG:=@List.mem_map_of_mem
abbrev mH:=@beq_iff_eq
abbrev mI:=@Array.getElem?_map
abbrev mJ:=@List.mem_singleton
abbrev mK:=@List.mem_or_eq_of_mem_set
abbrev mL:=@List.drop_eq_getElem_cons
abbrev mM:=@List.eraseIdx_append_of_length_le
abbrev mN:=@List.mem_of_mem_eraseIdx
abbrev mO:=@Nat.sub_zero
abbrev mP:=@or_false
abbrev mQ:=@List.find?_range_eq_some
abbrev mR:=@List.getElem_append_left
abbrev mS:=@List.set_cons_zero
abbrev mT:=@Option.isSome_none
abbrev mU:=@Array.all_eq_true'
abbrev mV:=@Array.empty_append
abbrev mW:=@Option.toList_some
abbrev mX:=@List.drop_eq_nil_of_le
abbrev mY:=@Int.mul_le_mul_of_nonneg_left
abbrev mZ:=@decide_eq_true_eq
abbrev m0:=@Int.toNat_natCast
abbrev m1:=@Array.getElem?_modify
abbrev m2:=@List.length_singleton
abbrev m3:=@List.map_cons
abbrev m4:=@List.getElem?_range
abbrev m5:=@Std.Legacy.Range.forIn_eq_forIn_range'
abbrev m6:=@List.foldl_cons
abbrev m7:=@Nat.min_eq_left
abbrev m8:=@List.nodup_cons
abbrev m9:=@List.getElem_append_right
abbrev na:=@List.set_cons_succ
abbrev nb:=@Array.append_empty
abbrev nc:=@Option.isSome_some
abbrev nf:=@Array.setIfInBounds_comm
abbrev ng:=@List.getElem?_drop
abbrev nh:=@List.getElem?_cons_succ
abbrev ni:=@decide_eq_false_iff_not
abbrev nj:=@of_decide_eq_true
abbrev nk:=@Bool.not_eq_true'
abbrev nm:=@Decidable.not_not
abbrev nn:=@Bool.eq_false_iff
abbrev no:=@Array.getElem?_extract
abbrev np:=@List.getElem?_set_self
abbrev nq:=@Array.toList_map
abbrev nr:=@Array.mem_iff_getElem
abbrev ns:=@List.set_set
abbrev nt:=@List.forIn_cons
abbrev nu:=@iff_of_false
abbrev nx:=@Nat.pow_le_pow_right
abbrev ny:=@List.take_append_of_le_length
abbrev nz:=@Array.getElem?_push
abbrev nA:=@List.replicate_succ
abbrev nB:=@Bool.not_false
abbrev nC:=@List.mapM_cons
abbrev nD:=@List.forIn_nil
abbrev nE:=@List.mem_filterMap
abbrev nF:=@List.pairwise_cons
abbrev nG:=@List.mem_cons_self
abbrev nH:=@Bool.not_true
abbrev nI:=@Int.fdiv_eq_ediv_of_nonneg
abbrev nJ:=@List.set_comm
abbrev nK:=@Prod.mk.injEq
abbrev nL:=@List.getD_eq_getElem?_getD
abbrev nM:=@List.length_eraseIdx_of_lt
abbrev nN:=@Array.size_append
abbrev nO:=@List.foldl_append
abbrev nP:=@Nat.mod_lt
abbrev nQ:=@Classical.byContradiction
abbrev nR:=@List.zipIdx_cons
abbrev nT:=@Nat.sub_self
abbrev nU:=@Nat.add_comm
abbrev nV:=@List.getElem?_take_of_lt
abbrev nW:=@List.range'_succ
abbrev nX:=@List.mem_flatMap
abbrev nY:=@List.length_take
abbrev nZ:=@Int.mul_comm
abbrev n0:=@Nat.lt_succ_iff_lt_or_eq
abbrev n3:=@List.length_filterMap_le
abbrev n4:=@List.length_nil
abbrev n6:=@List.cons.injEq
abbrev n7:=@List.range_succ
abbrev n8:=@Nat.mul_le_mul
abbrev n9:=@List.length_replicate
abbrev oa:=@List.Perm.append_left
abbrev ob:=@List.filterMap_append
abbrev oc:=@List.find?_map
abbrev od:=@BitVec.ofInt_natCast
abbrev oe:=@List.pairwise_append
abbrev og:=@Prod.ext
abbrev oh:=@List.findIdx_getElem
abbrev oj:=@Bool.false_or
abbrev om:=@List.sum_cons
abbrev oo:=@List.sum_nil
abbrev oq:=@Nat.pow_succ
abbrev ot:=@Nat.one_mul
abbrev tR_(n m:Nat):Array Bool:=⟨List.replicate n true++List.replicate m false⟩
abbrev LH:=Nat->Option Obj
structure St where
 E:LH
 H:LH
 q:Bool
abbrev Ld_:=List Deferred
abbrev Ao_:=Array Oper
abbrev Li_:=List Item
abbrev Lf_:=List Frame
abbrev On_:=Option (Nat×Bool)
abbrev Ae_:=Array Edge
abbrev Gs_:=Goroutine->St->Prop
abbrev Lv_:=List Value
abbrev Av_:=Array Value
def St.get(s:St)(b:Nat):Option Obj:=match s.E b with | some o=>some o | none=>s.H b
structure Fits (s:St) (w:World):Prop where
 e:∀b o,s.E b=some o->w.heap[b]?=some o
 h:∀b o,s.H b=some o->w.heap[b]?=some o
 d:∀b,s.E b≠none->s.H b=none
variable{w:World}{o:Obj}
theorem Fits.get{s:St}(f:Fits s w){b:Nat}(h:s.get b=some o):w.heap[b]?=some o:=by
 unfold St.get at h;split at h;rename_i o' K;cases h;exact f.e _ _ K;exact f.h _ _ h
theorem Fits.Sk{s:St}(f:Fits s w){b:Nat}(h:s.H b=some o):b<w.heap.size:=by
 have:=f.h _ _ h;rcases lb b w.heap.size with K | K;exact K;simp[lk K] at this
theorem Fits.lt{s:St}(f:Fits s w){b:Nat}(h:s.get b=some o):b<w.heap.size:=by
 have:=f.get h;rcases lb b w.heap.size with K | K;exact K;simp[lk K] at this
def cellAt(o:Obj)(a:Addr):Option Value:=match o with | .cells c _ _=>if a.spot.isSome then none else c[a.off]? | _=>none
def frozenAt(o:Obj)(a:Addr):Bool:=match o with | .cells _ _ (lo,hi)=>lo<=a.off&&a.off<hi | _=>false
def shapeOf(o:Obj):Option (TypeId×Nat):=match o with | .cells c e _=>some (e,c.size) | _=>none
def BX:Value->Bool | .agg _ | .tuple _=>false | _=>true
def Jp(o:Obj)(a:Addr)(v:Value):Obj:=match o with | .cells c e f=>.cells (if a.spot.isSome then c else c.setIfInBounds a.off v) e f | o=>o
def Iz(o:Obj):Bool:=match o with | .cells ..=>false | .chan ..=>false | .pending ..=>false | .view ..=>false | .number ..=>false | _=>true
def St.cell? (s:St)(a:Addr):Option Value:=(s.get a.block).bind (cellAt · a)
def St.upd(s:St)(b:Nat)(o:Obj):St:={s with H:=λx=>if x=b then some o else s.H x}
theorem PY{a:Addr}(h:w.heap[a.block]?=some o):w.cell? a=cellAt o a:=by
 unfold World.cell? cellAt;rw[h];cases o<;>rfl
theorem Pw{a:Addr}(h:w.heap[a.block]?=some o):w.frozen? a=frozenAt o a:=by
 unfold World.frozen? frozenAt;rw[h];cases o<;>rfl
theorem SW{b:Nat}(h:w.heap[b]?=some o):w.shape? b=shapeOf o:=by
 unfold World.shape? shapeOf;rw[h];cases o<;>rfl
def lp(P:Program){α:Type}:Sem α->St->(α->St->Prop)->(Halt->St->Prop)->Prop
 | .pure a,s,Q,_=>Q a s
 | .load m a k,s,Q,X=>m=.plain/\∃v,s.cell? a=some v/\lp P (k v) s Q X
 | .store m a v k,s,Q,X=>m=.plain/\BX v=true/\∃o,s.H a.block=some o/\(cellAt o a).isSome=true/\frozenAt o a=false/\lp P k (s.upd a.block (Jp o a v)) Q X
 | .new o k,s,Q,X=>s.q=false/\∀r,s.E r=none->s.H r=none->lp P (k r) (s.upd r o) Q X
 | .shape r k,s,Q,X=>∃o,s.get r=some o/\lp P (k (shapeOf o)) s Q X
 | .freeze _ _ _,_,_,_=>False
 | .frozen a k,s,Q,X=>∃o,s.get a.block=some o/\lp P (k (frozenAt o a)) s Q X
 | .getObj r k,s,Q,X=>∃o,s.get r=some o/\Iz o=true/\lp P (k o) s Q X
 | .setObj r o k,s,Q,X=>(∃o₀,s.H r=some o₀/\Iz o₀=true)/\Iz o=true/\lp P k (s.upd r o) Q X
 | .choose q k,s,Q,X=>if q.forced then lp P (k 0) s Q X else s.q=false/\∀t,lp P (k (q.cut t)) s Q X
 | .sys _ _,_,_,_=>False
 | .program k,s,Q,X=>lp P (k P) s Q X
 | .mark m k,s,Q,X=>((s.q=false/\m=.noRoom)∨∃f,m=.extern f)/\lp P k s Q X
 | .halt h,s,_,X=>X h s
variable{α:Type}
theorem CH{P:Program}(x:Sem α):∀{s:St}{Q Q':α->St->Prop}{X Y:Halt->St->Prop},lp P x s Q X->(∀a s,Q a s->Q' a s)->(∀h s,X h s->Y h s)->lp P x s Q' Y:=by
 induction x with
 | pure a=>intro s Q Q' X Y h K O;exact K _ _ h
 | load m a k U=>intro s Q Q' X Y h K O;obtain⟨Z,v,aa,ab⟩:=h;exact⟨Z,v,aa,U _ ab K O⟩
 | store m a v k U=>intro s Q Q' X Y h K O;obtain⟨Z,aa,o,ab,ag,ah,ai⟩:=h;exact⟨Z,aa,o,ab,ag,ah,U ai K O⟩
 | new o k U=>intro s Q Q' X Y h K O;exact⟨h.1,λr Z aa=>U _ (h.2 r Z aa) K O⟩
 | shape r k U=>intro s Q Q' X Y h K O;obtain⟨o,Z,aa⟩:=h;exact⟨o,Z,U _ aa K O⟩
 | freeze a n k U=>intro s Q Q' X Y h K O;exact h
 | frozen a k U=>intro s Q Q' X Y h K O;obtain⟨o,Z,aa⟩:=h;exact⟨o,Z,U _ aa K O⟩
 | getObj r k U=>intro s Q Q' X Y h K O;obtain⟨o,Z,aa,ab⟩:=h;exact⟨o,Z,aa,U _ ab K O⟩
 | setObj r o k U=>intro s Q Q' X Y h K O;obtain⟨Z,aa,ab⟩:=h;exact⟨Z,aa,U ab K O⟩
 | choose q k U=>
  intro s Q Q' X Y h K O;simp only[lp] at h ⊢;split;rename_i ae;rw[d5 ae] at h;exact U _ h K O;rename_i ae;rw[d7 ae] at h;exact⟨h.1,λt=>U _ (h.2 t) K O⟩
 | sys c k U=>intro s Q Q' X Y h K O;exact h
 | program k U=>intro s Q Q' X Y h K O;exact U _ h K O
 | mark m k U=>intro s Q Q' X Y h K O;exact⟨h.1,U h.2 K O⟩
 | halt h=>intro s Q Q' X Y h K O;exact O _ _ h
variable{β:Type}
theorem Av{P:Program}(x:Sem α)(f:α->Sem β):∀{s:St}{Q:β->St->Prop}{X:Halt->St->Prop},lp P x s (λa s'=>lp P (f a) s' Q X) X->lp P (x>>=f) s Q X:=by
 show ∀{s:St}{Q:β->St->Prop}{X:Halt->St->Prop},lp P x s (λa s'=>lp P (f a) s' Q X) X->lp P (Sem.bind x f) s Q X
 induction x with
 | pure a=>intro s Q X h;exact h
 | load m a k K=>intro s Q X h;obtain⟨O,v,U,Y⟩:=h;exact⟨O,v,U,K _ Y⟩
 | store m a v k K=>intro s Q X h;obtain⟨O,U,o,Y,aa,ab,ae⟩:=h;exact⟨O,U,o,Y,aa,ab,K ae⟩
 | new o k K=>intro s Q X h;exact⟨h.1,λr O U=>K _ (h.2 r O U)⟩
 | shape r k K=>intro s Q X h;obtain⟨o,O,U⟩:=h;exact⟨o,O,K _ U⟩
 | freeze a n k K=>intro s Q X h;exact h
 | frozen a k K=>intro s Q X h;obtain⟨o,O,U⟩:=h;exact⟨o,O,K _ U⟩
 | getObj r k K=>intro s Q X h;obtain⟨o,O,U,Y⟩:=h;exact⟨o,O,U,K _ Y⟩
 | setObj r o k K=>intro s Q X h;obtain⟨O,U,Y⟩:=h;exact⟨O,U,K Y⟩
 | choose q k K=>
  intro s Q X h;simp only[lp,Sem.bind] at h ⊢;split;rename_i Z;rw[d5 Z] at h;exact K _ h;rename_i Z;rw[d7 Z] at h;exact⟨h.1,λt=>K _ (h.2 t)⟩
 | sys c k K=>intro s Q X h;exact h
 | program k K=>intro s Q X h;exact K _ h
 | mark m k K=>intro s Q X h;exact⟨h.1,K h.2⟩
 | halt h=>intro s Q X h;exact h
structure Fr (s:St) (w:World) (s':St) (w':World):Prop where
 size:w.heap.size<=w'.heap.size
 keep:∀b,b<w.heap.size->s.H b=none->w'.heap[b]?=w.heap[b]?
 own:∀b,s'.H b≠none->s.H b≠none∨w.heap.size<=b
 ext:∀b o,s.E b=some o->s'.E b=some o
 DG:∀b,s'.E b≠none->s.E b≠none∨s.H b≠none∨w.heap.size<=b
 tape:w'.tape=w.tape
 os:w'.os=w.os
 output:w'.output=w.output
theorem Fr.refl(s:St)(w:World):Fr s w s w:=
 ⟨la _,λ_ _ _=>V,λ_ h=>.inl h,λ_ _ h=>h,λ_ h=>.inl h,V,V,V⟩
variable{U:World}
theorem Fr.trans{s K O:St}{Y:World}(h:Fr s w K U)(k:Fr K U O Y):Fr s w O Y where
 size:=mB h.size k.size
 keep b hb Z:=by
  rw[k.keep b (mh hb h.size) ?_,h.keep b hb Z];by_cases aa:K.H b=none;exact aa;rcases h.own b aa with x | x;exact absurd Z x;omega
 own b hb:=by
  rcases k.own b hb with x | x;exact h.own b x;exact .inr (mB h.size x)
 ext b o ab:=k.ext b o (h.ext b o ab)
 DG b hb:=by
  rcases k.DG b hb with x | x | x;exact h.DG b x;rcases h.own b x with y | y;exact .inr (.inl y);exact .inr (.inr y);exact .inr (.inr (mB h.size x))
 tape:=k.tape.trans h.tape
 os:=k.os.trans h.os
 output:=k.output.trans h.output
def FV(s:St)(w w':World)(b:Nat)(write:Bool):Prop:=
 b<w'.heap.size/\(s.H b≠none∨w.heap.size<=b∨(s.E b≠none/\write=false))
def Ev(s:St)(w w':World)(e:Event):Prop:=
 match e.loc with
 | .cell a=>e.sync=false/\FV s w w' a.block e.write
 | .obj r=>e.sync=false/\FV s w w' r e.write
 | .mark (.extern _)=>True
 | .mark .noRoom=>True
 | _=>False
variable{O w':World}{wr:Bool}
theorem FV.Ad{s K:St}{b:Nat}(h:Fr s w K O)(Y:w'.heap.size<=U.heap.size)(t:FV K O w' b wr):FV s w U b wr:=by
 refine⟨mh t.1 Y,?_⟩;rcases t.2 with x | x | ⟨x,y⟩;rcases h.own b x with z | z;exact .inl z;exact .inr (.inl z);exact .inr (.inl (mB h.size x));rcases h.DG b x with z | z | z;exact .inr (.inr ⟨z,y⟩);exact .inl z;exact .inr (.inl z)
theorem Ev.Ad{s K:St}{e:Event}(h:Fr s w K O)(Y:w'.heap.size<=U.heap.size)(t:Ev K O w' e):Ev s w U e:=by
 unfold Ev at t ⊢;split<;>rename_i he<;>simp only[he] at t;exact⟨t.1,t.2.Ad h Y⟩;exact⟨t.1,t.2.Ad h Y⟩;trivial;trivial
def Jx{α:Type}:Result α->World | .ok _ w=>w | .halt _ w=>w
def XG{α:Type}(Q:α->St->Prop)(X:Halt->St->Prop)(s:St):Result α->Prop | .ok a _=>Q a s | .halt h _=>X h s
theorem Qt{s:St}{b:Nat}(h:s.get b=some o)(K:s.H b=none):s.E b≠none:=by
 intro e;unfold St.get at h;rw[e] at h;simp only at h;rw[K] at h;cases h
theorem Ok{s:St}{b:Nat}(f:Fits s w)(U:s.E b=none)(hb:w'.heap[b]?=some o)(Y:∀c,c≠b->∀x,w.heap[c]?=some x->w'.heap[c]?=some x):Fits (s.upd b o) w' where
 e c x K:=by
  have O:c≠b:=λe=>by subst e;simp[St.upd] at K;rw[U] at K;cases K
  exact Y c O x (f.e c x K)
 h c x K:=by
  simp only[St.upd] at K;split at K;rename_i e;subst e;cases K;exact hb;rename_i O;exact Y c O x (f.h c x K)
 d c K:=by
  have O:c≠b:=λe=>by subst e;exact K U
  simp only[St.upd,d7 O];exact f.d c K
theorem Mi{P:Program}(x:Sem α):∀{s:St}{w:World}{Q:α->St->Prop}{X:Halt->St->Prop},lp P x s Q X->Fits s w->
  ∃s',Fits s' (Jx (x.run P w))/\Fr s w s' (Jx (x.run P w))/\(∀e∈x.events P w #[],Ev s w (Jx (x.run P w)) e)/\XG Q X s' (x.run P w):=by
 induction x with
 | pure a=>intro s w Q X h f;exact⟨s,f,.refl _ _,by simp[Sem.events_pure'],h⟩
 | load m a k O=>
  intro s w Q X h f;obtain⟨rfl,v,ar,h⟩:=h;let⟨o,K,aE⟩:=lH.1 ar;have hw:=f.get K;have au:w.cell? a=some v:=by rw[PY hw,aE]
  have U:(Sem.load Mode.plain a k).run P w=(k v).run P w:=by simp[Sem.run,au]
  have Y:(Sem.load Mode.plain a k).events P w #[]=#[⟨.cell a,false,false⟩]++(k v).events P w #[]:=by
   rw[← Sem.events_acc];simp only[Sem.events,Sem.runT,au];rfl
  rw[U,Y];let⟨s',aa,Z,ab,ae⟩:=O v h f;refine⟨s',aa,Z,λe he=>?_,ae⟩;rcases mi.1 he with he | he;simp at he;subst he;refine⟨V,mh (f.lt K) Z.size,?_⟩;by_cases am:s.H a.block=none;refine .inr (.inr ⟨?_,V⟩);exact Qt K am;exact .inl am;exact ab e he
 | store m a v k O=>
  intro s w Q X h f;obtain⟨rfl,ar,o,K,au,aF,h⟩:=h;have hw:=f.h _ _ K;let⟨u,hu⟩:=Option.isSome_iff_exists.1 au;have aA:w.cell? a=some u:=by rw[PY hw,hu]
  have aB:w.frozen? a=false:=by rw[Pw hw,aF]
  have av:=f.Sk K;obtain⟨ay,az,f0,rfl⟩:∃c e f,o=.cells c e f:=by cases o<;>simp[cellAt] at hu;exact⟨_,_,_,V⟩
  have aG:(w.setCell a v).heap[a.block]?=some (Jp (.cells ay az f0) a v):=by
   simp[World.setCell,Jp,m1,hw]
  have an:∀c,c≠a.block->(w.setCell a v).heap[c]?=w.heap[c]? :=by
   intro c ai;simp[World.setCell,m1,lu ai]
  have ah:s.E a.block=none:=by
   cases ah:s.E a.block with
   | none=>rfl
   | some x=>have:=f.d a.block (by rw[ah];simp);rw[K] at this;cases this
  have ao:Fits (s.upd a.block (Jp (.cells ay az f0) a v)) (w.setCell a v):=Ok f ah aG (λc ai x aj=>by rw[an c ai];exact aj);have U:(Sem.store Mode.plain a v k).run P w=k.run P (w.setCell a v):=by
   cases v<;>first | (simp[BX] at ar;done) | simp[Sem.run,aA,aB]
  have Y:(Sem.store Mode.plain a v k).events P w #[]=#[⟨.cell a,true,false⟩]++k.events P (w.setCell a v) #[]:=by
   rw[← Sem.events_acc];cases v<;>first | (simp[BX] at ar;done) | (simp only[Sem.events,Sem.runT,aA,aB];rfl)
  have ag:Fr s w (s.upd a.block (Jp (.cells ay az f0) a v)) (w.setCell a v):=by
   refine⟨by simp[World.setCell],λb hb ak=>an b (λe=>by subst e;rw[K] at ak;cases ak),λb hb=>?_,λ_ _ h=>h,λ_ h=>.inl h,V,V,V⟩;simp only[St.upd] at hb;split at hb;rename_i e;subst e;exact .inl (by rw[K];simp);exact .inl hb
  rw[U,Y];let⟨s',aa,Z,ab,ae⟩:=O h ao;refine⟨s',aa,ag.trans Z,λe he=>?_,ae⟩;rcases mi.1 he with he | he;simp at he;subst he;exact⟨V,mh av (ag.trans Z).size,.inl (by rw[K];simp)⟩;exact(ab e he).Ad ag (la _)
 | new o k O=>
  intro s w Q X h f;have aC:s.E w.heap.size=none:=by
   cases ah:s.E w.heap.size with
   | none=>rfl
   | some x=>have:=f.e _ _ ah;simp at this
  have aH:s.H w.heap.size=none:=by
   cases ah:s.H w.heap.size with
   | none=>rfl
   | some x=>have:=f.h _ _ ah;simp at this
  have U:(Sem.new o k).run P w=(k w.heap.size).run P {w with heap:=w.heap.push o}:=by simp[Sem.run]
  have Y:(Sem.new o k).events P w #[]=(k w.heap.size).events P {w with heap:=w.heap.push o} #[]:=by simp only[Sem.events,Sem.runT]
  rw[U,Y];have ao:Fits (s.upd w.heap.size o) {w with heap:=w.heap.push o}:=Ok f aC (by simp) (λc ai x aj=>by
   have:c<w.heap.size:=by
    rcases lb c w.heap.size with ap | ap;exact ap;simp[lk ap] at aj
   simp[nz,Nat.ne_of_lt this,aj])
  have ag:Fr s w (s.upd w.heap.size o) {w with heap:=w.heap.push o}:=by
   refine⟨by simp,λb hb ak=>by simp[nz,Nat.ne_of_lt hb],λb hb=>?_,λ_ _ h=>h,λ_ h=>.inl h,V,V,V⟩;simp only[St.upd] at hb;split at hb;rename_i e;subst e;exact .inr (la _);exact .inl hb
  let⟨s',aa,Z,ab,ae⟩:=O _ (h.2 _ aC aH) ao;exact⟨s',aa,ag.trans Z,λe he=>(ab e he).Ad ag (la _),ae⟩
 | shape r k O=>
  intro s w Q X h f;obtain⟨o,K,h⟩:=h;have aq:=SW (f.get K);have U:(Sem.shape r k).run P w=(k (shapeOf o)).run P w:=by simp[Sem.run,aq]
  have Y:(Sem.shape r k).events P w #[]=(k (shapeOf o)).events P w #[]:=by simp only[Sem.events,Sem.runT,aq]
  rw[U,Y];exact O _ h f
 | freeze a n k O=>intro s w Q X h f;exact h.elim
 | frozen a k O=>
  intro s w Q X h f;obtain⟨o,K,h⟩:=h;have aq:=Pw (a:=a) (f.get K);have U:(Sem.frozen a k).run P w=(k (frozenAt o a)).run P w:=by simp[Sem.run,aq]
  have Y:(Sem.frozen a k).events P w #[]=(k (frozenAt o a)).events P w #[]:=by simp only[Sem.events,Sem.runT,aq]
  rw[U,Y];exact O _ h f
 | getObj r k O=>
  intro s w Q X h f;obtain⟨o,K,aw,h⟩:=h;have hw:=f.get K;have U:(Sem.getObj r k).run P w=(k o).run P w:=by cases o<;>simp[Iz] at aw<;>simp[Sem.run,hw]
  have Y:(Sem.getObj r k).events P w #[]=#[⟨.obj r,false,false⟩]++(k o).events P w #[]:=by
   rw[← Sem.events_acc];cases o<;>simp[Iz] at aw<;>(simp only[Sem.events,Sem.runT,hw,Obj.isChan];rfl)
  rw[U,Y];let⟨s',aa,Z,ab,ae⟩:=O o h f;refine⟨s',aa,Z,λe he=>?_,ae⟩;rcases mi.1 he with he | he;simp at he;subst he;refine⟨V,mh (f.lt K) Z.size,?_⟩;by_cases am:s.H r=none;refine .inr (.inr ⟨?_,V⟩);exact Qt K am;exact .inl am;exact ab e he
 | setObj r o k O=>
  intro s w Q X h f;obtain⟨⟨o₀,K,aD⟩,aw,h⟩:=h;have hw:=f.h _ _ K;have av:=f.Sk K;have ah:s.E r=none:=by
   cases ah:s.E r with
   | none=>rfl
   | some x=>have:=f.d r (by rw[ah];simp);rw[K] at this;cases this
  have U:(Sem.setObj r o k).run P w=k.run P {w with heap:=w.heap.setIfInBounds r o}:=by
   cases o₀<;>simp[Iz] at aD<;>simp[Sem.run,hw]
  have Y:(Sem.setObj r o k).events P w #[]=#[⟨.obj r,true,false⟩]++k.events P {w with heap:=w.heap.setIfInBounds r o} #[]:=by
   rw[← Sem.events_acc];cases o₀<;>simp[Iz] at aD<;>cases o<;>simp[Iz] at aw<;>(simp only[Sem.events,Sem.runT,hw,Obj.isChan];rfl)
  have an:∀c,c≠r->(w.heap.setIfInBounds r o)[c]?=w.heap[c]? :=λc ai=>by simp[lu ai]
  have ao:Fits (s.upd r o) {w with heap:=w.heap.setIfInBounds r o}:=Ok f ah (by simp[av]) (λc ai x aj=>by show(w.heap.setIfInBounds r o)[c]?=_;rw[an c ai];exact aj);have ag:Fr s w (s.upd r o) {w with heap:=w.heap.setIfInBounds r o}:=by
   refine⟨by simp,λb hb ak=>an b (λe=>by subst e;rw[K] at ak;cases ak),λb hb=>?_,λ_ _ h=>h,λ_ h=>.inl h,V,V,V⟩;simp only[St.upd] at hb;split at hb;rename_i e;subst e;exact .inl (by rw[K];simp);exact .inl hb
  rw[U,Y];let⟨s',aa,Z,ab,ae⟩:=O h ao;refine⟨s',aa,ag.trans Z,λe he=>?_,ae⟩;rcases mi.1 he with he | he;simp at he;subst he;exact⟨V,mh av (ag.trans Z).size,.inl (by rw[K];simp)⟩;exact(ab e he).Ad ag (la _)
 | choose q k O=>
  intro s w Q X h f;simp only[lp] at h;by_cases al:q.forced
  .rw [d5 al] at h;have U:(Sem.choose q k).run P w=(k 0).run P w:=by simp[Sem.run,al]
   have Y:(Sem.choose q k).events P w #[]=(k 0).events P w #[]:=by simp only[Sem.events,Sem.runT];rw[d5 al]
   rw[U,Y];exact O _ h f
  .rw [d7 al] at h;have U:(Sem.choose q k).run P w=(k (q.cut (w.tape w.drawn q))).run P {w with drawn:=w.drawn+1}:=by simp[Sem.run,al]
   have Y:(Sem.choose q k).events P w #[]=(k (q.cut (w.tape w.drawn q))).events P {w with drawn:=w.drawn+1} #[]:=by simp only[Sem.events,Sem.runT];rw[d7 al]
   rw[U,Y];have ag:Fr s w s {w with drawn:=w.drawn+1}:=⟨la _,λ_ _ _=>rfl,λ_ h=>.inl h,λ_ _ h=>h,λ_ h=>.inl h,rfl,rfl,rfl⟩;let⟨s',aa,Z,ab,ae⟩:=O _ (h.2 (w.tape w.drawn q)) (⟨f.e,f.h,f.d⟩:Fits s {w with drawn:=w.drawn+1});exact⟨s',aa,ag.trans Z,λe he=>(ab e he).Ad ag (la _),ae⟩
 | sys c k O=>intro s w Q X h f;exact h.elim
 | program k O=>
  intro s w Q X h f;have U:(Sem.program k).run P w=(k P).run P w:=by simp[Sem.run]
  have Y:(Sem.program k).events P w #[]=(k P).events P w #[]:=by simp only[Sem.events,Sem.runT]
  rw[U,Y];exact O _ h f
 | mark m k O=>
  intro s w Q X h f;have U:(Sem.mark m k).run P w=k.run P w:=by simp[Sem.run]
  have Y:(Sem.mark m k).events P w #[]=#[⟨.mark m,false,true⟩]++k.events P w #[]:=by
   rw[← Sem.events_acc];simp only[Sem.events,Sem.runT];rfl
  rw[U,Y];obtain⟨hm,h⟩:=h;let⟨s',aa,Z,ab,ae⟩:=O h f;refine⟨s',aa,Z,λe he=>?_,ae⟩;rcases mi.1 he with he | he;simp at he;subst he;rcases hm with⟨_,rfl⟩ | ⟨g,rfl⟩<;>trivial;exact ab e he
 | halt h=>intro s w Q X ap f;exact⟨s,f,.refl _ _,by simp[Sem.events_halt],ap⟩
variable{es:Array Event}
theorem NM{P:Program}{fn:FuncId}(h:∀e∈es,∃f,e.loc=.mark (.extern f)):seen P fn es=#[]:=by
 rw[seen_def];have:∀(l:List Event) (q:Bool),(∀e∈l,∃f,e.loc=.mark (.extern f))->(l.foldl (seenStep λf=>(P.funcs[f]?).any (·.norace)) (q,#[])).2=#[]:=by
  intro l
  induction l with
  | nil=>intro q _;rfl
  | cons e l K=>
   intro q h;obtain⟨f,O⟩:=h e (by simp);rw[m6];have:seenStep (λf=>(P.funcs[f]?).any (·.norace)) (q,#[]) e=((P.funcs[f]?).any (·.norace),#[]):=by simp[seenStep,O]
   rw[this];exact K _ λx U=>h x (by simp[U])
 exact this es.toList _ λe he=>h e (Array.mem_toList_iff.1 he)
def St.quiet:St:=⟨λ_=>none,λ_=>none,true⟩
theorem Of{P:Program}(x:Sem α):∀{Q:α->St->Prop}{X:Halt->St->Prop},lp P x .quiet Q X->
  ∃es,(∀w,x.events P w #[]=es)/\(∀e∈es,∃f,e.loc=.mark (.extern f))/\((∃a,Q a .quiet/\(∀w,x.run P w=.ok a w))∨(∃a,X a .quiet/\(∀w,x.run P w=.halt a w))):=by
 induction x with
 | pure a=>intro Q X h;exact⟨#[],λw=>by simp[Sem.events_pure'],by simp,.inl ⟨a,h,λw=>rfl⟩⟩
 | load m a k K=>intro Q X h;obtain⟨_,v,Z,_⟩:=h;simp[St.cell?,St.get,St.quiet] at Z
 | store m a v k K=>intro Q X h;obtain⟨_,_,o,aa,_⟩:=h;cases aa
 | new o k K=>intro Q X h;cases h.1
 | shape r k K=>intro Q X h;obtain⟨o,O,_⟩:=h;simp[St.get,St.quiet] at O
 | freeze a n k K=>intro Q X h;exact h.elim
 | frozen a k K=>intro Q X h;obtain⟨o,O,_⟩:=h;simp[St.get,St.quiet] at O
 | getObj r k K=>intro Q X h;obtain⟨o,O,_⟩:=h;simp[St.get,St.quiet] at O
 | setObj r o k K=>intro Q X h;obtain⟨⟨o,O,_⟩,_⟩:=h;cases O
 | choose q k K=>
  intro Q X h;simp only[lp] at h;by_cases U:q.forced
  .rw [d5 U] at h;have Y:∀w,(Sem.choose q k).run P w=(k 0).run P w:=λw=>by simp[Sem.run,U]
   have e2:∀w,(Sem.choose q k).events P w #[]=(k 0).events P w #[]:=λw=>by simp only[Sem.events,Sem.runT];rw[d5 U]
   simpa only[Y,e2] using K _ h
  .rw [d7 U] at h;cases h.1
 | sys c k K=>intro Q X h;exact h.elim
 | program k K=>
  intro Q X h;have Y:∀w,(Sem.program k).run P w=(k P).run P w:=λw=>by simp[Sem.run]
  have e2:∀w,(Sem.program k).events P w #[]=(k P).events P w #[]:=λw=>by simp only[Sem.events,Sem.runT]
  simpa only[Y,e2] using K _ h
 | mark m k K=>
  intro Q X h;obtain⟨hm,h⟩:=h;let⟨es,O,Z,aa⟩:=K h;have Y:∀w,(Sem.mark m k).run P w=k.run P w:=λw=>by simp[Sem.run]
  have e2:∀w,(Sem.mark m k).events P w #[]=#[⟨.mark m,false,true⟩]++k.events P w #[]:=λw=>by rw[← Sem.events_acc];simp only[Sem.events,Sem.runT];rfl
  refine⟨#[⟨.mark m,false,true⟩]++es,λw=>by rw[e2,O],λe he=>?_,by simpa only[Y] using aa⟩;rcases mi.1 he with he | he;simp at he;subst he;rcases hm with⟨U,_⟩ | hm;cases U;obtain⟨f,rfl⟩:=hm;exact⟨f,V⟩;exact Z e he
 | halt h=>intro Q X ab;exact⟨#[],λw=>by simp[Sem.events_halt],by simp,.inr ⟨h,ab,λw=>rfl⟩⟩
def Ry(P:Program)(main:Bool)(g:Goroutine)(s:St)(K:Gs_):Prop:=
 g.status=.running/\(∀w,Fits s w->
  ∃g' s' w' es,stepG P main g w=.go g' w' es/\K g' s'/\Fits s' w'/\Fr s w s' w'/\(∀e∈es,Ev s w w' e))/\
  (s=.quiet->∃g',(∀w,stepG P main g w=.go g' w #[])/\K g' .quiet)
structure BW (s s₀:St):Prop where
 ext:∀b o,s.E b=some o->s₀.E b=some o
 own:∀b o,s₀.H b=some o->s.H b=some o
 DG:∀b o,s₀.E b=some o->s.E b=some o∨(s.H b=some o/\s₀.H b=none)
 q:s₀.q=s.q
theorem BW.refl(s:St):BW s s:=⟨λ_ _ h=>h,λ_ _ h=>h,λ_ _ h=>.inl h,V⟩
variable{s₀:St}
theorem BW.fits{s:St}(g:BW s s₀)(f:Fits s w):Fits s₀ w where
 e b o h:=by
  rcases g.DG b o h with x | x;exact f.e _ _ x;exact f.h _ _ x.1
 h b o h:=f.h _ _ (g.own _ _ h)
 d b h:=by
  cases K:s₀.E b with
  | none=>exact absurd K h
  | some o=>
   rcases g.DG b o K with x | x
   .cases O:s₀.H b with
    | none=>rfl
    | some y=>have:=g.own _ _ O;rw[f.d b (by rw[x];simp)] at this;cases this
   .exact x.2
theorem Hz{x:Option α}(h:x≠none):∃a,x=some a:=by cases x<;>simp at h;exact⟨_,rfl⟩
theorem BW.fr{s s':St}(g:BW s s₀)(f:Fr s₀ w s' w'):Fr s w s' w' where
 size:=f.size
 keep b hb O:=f.keep b hb (by
  cases h:s₀.H b with
  | none=>rfl
  | some o=>rw[g.own _ _ h] at O;cases O)
 own b hb:=(f.own b hb).imp (λh=>by let⟨o,K⟩:=Hz h;rw[g.own _ _ K];simp) id
 ext b o h:=f.ext _ _ (g.ext _ _ h)
 DG b hb:=by
  rcases f.DG b hb with h | h | h;let⟨o,K⟩:=Hz h;rcases g.DG _ _ K with x | x;exact .inl (by rw[x];simp);exact .inr (.inl (by rw[x.1];simp));let⟨o,K⟩:=Hz h;exact .inr (.inl (by rw[g.own _ _ K];simp));exact .inr (.inr h)
 tape:=f.tape
 os:=f.os
 output:=f.output
theorem BW.FV{s:St}{b:Nat}(g:BW s s₀)(t:FV s₀ w w' b wr):FV s w w' b wr:=by
 refine⟨t.1,?_⟩;rcases t.2 with h | h | ⟨h,hw⟩;let⟨o,K⟩:=Hz h;exact .inl (by rw[g.own _ _ K];simp);exact .inr (.inl h);let⟨o,K⟩:=Hz h;rcases g.DG _ _ K with x | x;exact .inr (.inr ⟨by rw[x];simp,hw⟩);exact .inl (by rw[x.1];simp)
theorem BW.ev{s:St}{e:Event}(g:BW s s₀)(t:Ev s₀ w w' e):Ev s w w' e:=by
 unfold Ev at t ⊢;split<;>rename_i he<;>simp only[he] at t;exact⟨t.1,g.FV t.2⟩;exact⟨t.1,g.FV t.2⟩;trivial;trivial
theorem BW.quiet(g:BW .quiet s₀):s₀=.quiet:=by
 obtain⟨E,H,q⟩:=s₀;have K:E=λ_=>none:=by
  funext b;cases h:E b with
  | none=>rfl
  | some o=>rcases g.DG b o h with x | ⟨x,_⟩<;>cases x
 have O:H=λ_=>none:=by
  funext b;cases h:H b with
  | none=>rfl
  | some o=>cases g.own b o h
 have U:q=true:=g.q;subst K O U;rfl
inductive Rk:Type where
 | leaf:Rk
 | node (f:World->Rk):Rk
def Rk.sub(a b:Rk):Prop:=∃f w,b=.node f/\a=f w
theorem Rk.wf:WellFounded Rk.sub:=⟨λr=>by
 induction r with
 | leaf=>exact⟨_,λa ⟨f,w,h,_⟩=>by cases h⟩
 | node f K=>exact⟨_,λa ⟨g,w,h,e⟩=>by cases h;subst e;exact K w⟩⟩
def Jr(P:Program)(main:Bool)(Q:Gs_):Rk->Gs_
 | .leaf,g,s=>Q g s
 | .node f,g,s=>Q g s∨(g.status=.running/\∀w,Fits s w->
  ∃g' s' w' es,stepG P main g w=.go g' w' es/\Jr P main Q (f w) g' s'/\Fits s' w'/\Fr s w s' w'/\(∀e∈es,Ev s w w' e)/\(s=.quiet->s'=.quiet/\w'=w/\es=#[]))
structure Judge (P:Program) where
 main:Bool
 ok:(Gs_)->Gs_
 stop:∀{Q g s},Q g s->ok Q g s
 step:∀{Q g s},Ry P main g s (ok Q)->ok Q g s
 trans:∀{Q R g s},ok Q g s->(∀g' s',Q g' s'->ok R g' s')->ok R g s
 ghost:∀{Q g s s₀},BW s s₀->ok Q g s₀->ok Q g s
def JQ(Q:Gs_)(g:Goroutine)(s:St):Prop:=∃s₀,BW s s₀/\Q g s₀
theorem BW.trans{a b c:St}(h:BW a b)(k:BW b c):BW a c where
 ext x o y:=k.ext _ _ (h.ext _ _ y)
 own x o y:=h.own _ _ (k.own _ _ y)
 DG x o y:=by
  rcases k.DG x o y with z | z
  .rcases h.DG x o z with u | u;exact .inl u
   .refine .inr ⟨u.1,?_⟩;cases K:c.H x with
    | none=>rfl
    | some v=>have:=k.own _ _ K;rw[u.2] at this;cases this
  .exact .inr ⟨h.own _ _ z.1,z.2⟩
 q:=k.q.trans h.q
def Bc(P:Program)(main:Bool):Judge P where
 main:=main
 ok Q g s:=∃r,Jr P main (JQ Q) r g s
 stop h:=⟨.leaf,_,.refl _,h⟩
 step {Q g s} h:=by
  obtain⟨U,h,hu⟩:=h;have ae:∀w,∃r:Rk,Fits s w->∃g' s' w' es,stepG P main g w=.go g' w' es/\Jr P main (JQ Q) r g' s'/\Fits s' w'/\Fr s w s' w'/\(∀e∈es,Ev s w w' e)/\(s=.quiet->s'=.quiet/\w'=w/\es=#[]):=by
   intro w;by_cases f:Fits s w
   .by_cases e:s=.quiet
    .let⟨g',K,r,O⟩:=hu e;exact⟨r,λ_=>⟨g',.quiet,w,#[],K w,O,e▸f,e▸ .refl _ _,by simp,λ_=>⟨V,V,V⟩⟩⟩
    .let⟨g',s',w',es,K,⟨r,O⟩,aa,ag,ah⟩:=h w f;exact⟨r,λ_=>⟨g',s',w',es,K,O,aa,ag,ah,λx=>absurd x e⟩⟩
   .exact⟨.leaf,λx=>absurd x f⟩
  exact⟨.node λw=>Classical.choose (ae w),.inr ⟨U,λw f=>mg (ae w) f⟩⟩
 trans {Q R g s} h k:=by
  obtain⟨r,h⟩:=h;have aj:∀(r:Rk) {g:Goroutine}{s s₀:St},BW s s₀->Jr P main (JQ R) r g s₀->Jr P main (JQ R) r g s:=by
   intro r g s s₀ Y Z;cases r with
   | leaf=>obtain⟨ab,K,O⟩:=Z;exact⟨ab,Y.trans K,O⟩
   | node f=>
    rcases Z with⟨ab,K,O⟩ | ⟨U,Z⟩
    .exact .inl ⟨ab,Y.trans K,O⟩
    .exact .inr ⟨U,λw f=>let ⟨g',s',w',es,K,O,aa,ag,ah,ai⟩:=Z w (Y.fits f);⟨g',s',w',es,K,O,aa,Y.fr ag,λe he=>Y.ev (ah e he),λe=>ai (by subst e;exact Y.quiet)⟩⟩
  induction r generalizing g s with
  | leaf=>
   obtain⟨s₀,K,O⟩:=h;let⟨r,U⟩:=k _ _ O;exact⟨r,aj r K U⟩
  | node f al=>
   rcases h with⟨s₀,K,O⟩ | ⟨U,h⟩
   .let⟨r,U⟩:=k _ _ O;exact⟨r,aj r K U⟩
   .have ae:∀w,∃r:Rk,Fits s w->∃g' s' w' es,stepG P main g w=.go g' w' es/\Jr P main (JQ R) r g' s'/\Fits s' w'/\Fr s w s' w'/\(∀e∈es,Ev s w w' e)/\(s=.quiet->s'=.quiet/\w'=w/\es=#[]):=by
     intro w;by_cases ak:Fits s w
     .let⟨g',s',w',es,K,O,aa⟩:=h w ak;let⟨r,U⟩:=al w O;exact⟨r,λ_=>⟨g',s',w',es,K,U,aa⟩⟩
     .exact⟨.leaf,λx=>absurd x ak⟩
    exact⟨.node λw=>Classical.choose (ae w),.inr ⟨U,λw f=>mg (ae w) f⟩⟩
 ghost {Q g s s₀} Y h:=by
  obtain⟨r,Z⟩:=h;refine⟨r,?_⟩;cases r with
  | leaf=>obtain⟨ab,K,O⟩:=Z;exact⟨ab,Y.trans K,O⟩
  | node f=>
   rcases Z with⟨ab,K,O⟩ | ⟨U,Z⟩
   .exact .inl ⟨ab,Y.trans K,O⟩
   .exact .inr ⟨U,λw f=>let ⟨g',s',w',es,K,O,aa,ag,ah,ai⟩:=Z w (Y.fits f);⟨g',s',w',es,K,O,aa,Y.fr ag,λe he=>Y.ev (ah e he),λe=>ai (by subst e;exact Y.quiet)⟩⟩
def Lv(P:Program)(Q:Gs_):Nat->Goroutine->Prop
 | 0,g=>Q g .quiet
 | n+1,g=>Q g .quiet∨(g.status=.running/\∃g',(∀w,stepG P false g w=.go g' w #[])/\Lv P Q n g')
def GF(P:Program):Judge P where
 main:=false
 ok Q g s:=s=.quiet->∃n,Lv P Q n g
 stop h e:=⟨0,by subst e;exact h⟩
 step {Q g s} h e:=by
  let⟨g',K,O⟩:=h.2.2 e;let⟨n,U⟩:=O V;exact⟨n+1,.inr ⟨h.1,g',K,U⟩⟩
 trans {Q R g s} h k e:=by
  let⟨n,U⟩:=h e;have:∀n g,Lv P Q n g->∃m,Lv P R m g:=by
   intro n
   induction n with
   | zero=>intro g h;exact k _ _ h rfl
   | succ n Y=>
    intro g h;rcases h with h | ⟨Z,g',K,O⟩
    .exact k _ _ h V
    .let⟨m,hm⟩:=Y g' O;exact⟨m+1,.inr ⟨Z,g',K,hm⟩⟩
  exact this n g U
 ghost {Q g s s₀} aa h e:=by subst e;exact h aa.quiet
def fr(b:Frame)(T:Av_)(ds:Ld_)(todo:Li_):Frame:={b with tmps:=T,todo:=todo,defers:=ds,mode:=.run}
def Di(b:Frame)(T:Av_)(ds:Ld_)(todo:Li_):Frame:={b with tmps:=T,todo:=todo,defers:=ds,mode:=.returning}
def A7(T:Av_):Operand->Value
 | .tmp t=>T.getD t undef
 | .const v=>v
 | .global g=>.pointer (some ⟨g,0,none⟩)
 | .func f=>.func (.func f) #[] #[]
abbrev Env:=List (Nat×Value)
def look:Env->Nat->Option Value
 | [],_=>none
 | (t,v)::L,u=>if t=u then some v else look L u
def ev(L:Env):Operand->Option Value
 | .tmp t=>look L t
 | .const v=>some v
 | .global g=>some (.pointer (some ⟨g,0,none⟩))
 | .func f=>some (.func (.func f) #[] #[])
structure Has (n:Nat) (L:Env) (T:Av_):Prop where
 size:T.size=n
 at_:∀t v,look L t=some v->T.getD t undef=v
variable{T:Av_}
theorem Has.ev{n:Nat}{L:Env}(h:Has n L T){x:Operand}{v:Value}(e:ev L x=some v):A7 T x=v:=by
 cases x with
 | tmp t=>exact h.at_ t v e
 | const u=>cases e;rfl
 | global g=>cases e;rfl
 | func f=>cases e;rfl
def Cb(T:Av_):Option Tmp->Value->Av_
 | some d,v=>T.setIfInBounds d v
 | none,_=>T
def Az(L:Env):Option Tmp->Value->Env
 | some d,v=>(d,v)::L
 | none,_=>L
def A6(n:Nat):Option Tmp->Bool
 | some d=>d<n
 | none=>true
theorem UI(T:Av_)(d:Nat)(v:Value)(h:d<T.size)(t:Nat):(T.setIfInBounds d v).getD t undef=if d=t then v else T.getD t undef:=by
 by_cases e:d=t;subst e;simp[f4,h];simp[f4,e]
theorem Has.put{n:Nat}{L:Env}(h:Has n L T){d:Option Tmp}(hd:A6 n d=true)(v:Value):Has n (Az L d v) (Cb T d v):=by
 cases d with
 | none=>exact h
 | some d=>
  have K:d<T.size:=by rw[h.size];simpa [A6] using hd
  refine⟨by simp[Cb,h.size],λt u hu=>?_⟩;simp only[Cb,UI T d v K];simp only[Az,look] at hu;split at hu;rename_i e;rw[d5 e];exact d6 hu;rename_i e;rw[d7 e];exact h.at_ t u hu
def Sub:Env->Env->Prop
 | [],_=>True
 | (t,v)::L',L=>look L t=some v/\Sub L' L
theorem Sub.look{L:Env}:∀{L':Env},Sub L' L->∀t v,look L' t=some v->Pal.look L t=some v
 | [],_,t,v,e=>by simp[Pal.look] at e
 | (u,w)::L',h,t,v,e=>by
  simp only[Pal.look] at e
  split at e;rename_i K;subst K;cases e;exact h.1;exact Sub.look h.2 t v e
theorem Has.sub{n:Nat}{L L':Env}(h:Has n L T)(s:Sub L' L):Has n L' T:=⟨h.size,λt v e=>h.at_ t v (s.look t v e)⟩
variable {P:Program}
section
variable (J:Judge P)(Q:Gs_)
def JL(b:Frame)(n:Nat)(L:Env)(ds:Ld_)(todo:Li_)(cs:Lf_)(s:St):Prop:=
 ∀T,Has n L T->J.ok Q (G (fr b T ds todo) cs) s
end
variable {J:Judge P}{Q:Gs_}{L L':Env}{ds:Ld_}{k:Li_}{cs:Lf_}{s s':St}
section
variable {b:Frame}{n:Nat}
theorem Judge.Cr{g g':Goroutine}(K:g.status=.running)(h:∀w,stepG P J.main g w=.go g' w)(k:J.ok Q g' s):J.ok Q g s:=
 J.step ⟨K,λw f=>⟨g',s,w,#[],h w,k,f,.refl _ _,by simp⟩,λe=>⟨g',h,e▸k⟩⟩
theorem Jb(h:Sub L' L)(k':JL J Q b n L' ds k cs s):JL J Q b n L ds k cs s:=λT K=>k' T (K.sub h)
theorem JL.ghost(h:BW s s')(k':JL J Q b n L ds k cs s'):JL J Q b n L ds k cs s:=λT K=>J.ghost h (k' T K)
theorem JL.skip(h:JL J Q b n L ds k cs s):JL J Q b n L ds (.code .skip::k) cs s:=λT K=>Judge.Cr V (λw=>by simp[G,stepG,stepG.exec,fr]) (h T K)
theorem NT{i:Nat}(h:JL J Q b n L ds k cs s):JL J Q b n L ds (.inBlock i::k) cs s:=λT K=>Judge.Cr V (λw=>by simp[G,stepG,stepG.exec,fr]) (h T K)
theorem SS{c:Code}(h:JL J Q b n L ds k cs s):JL J Q b n L ds (.inScope c::k) cs s:=λT K=>Judge.Cr V (λw=>by simp[G,stepG,stepG.exec,fr]) (h T K)
theorem JL.seq{x y:Code}(h:JL J Q b n L ds (.code x:: .code y::k) cs s):JL J Q b n L ds (.code (.seq x y)::k) cs s:=λT K=>Judge.Cr V (λw=>by simp[G,stepG,stepG.exec,fr]) (h T K)
theorem JL.block{i:Nat}{c:Code}(h:JL J Q b n L ds (.code c:: .inBlock i::k) cs s):JL J Q b n L ds (.code (.block i c)::k) cs s:=λT K=>Judge.Cr V (λw=>by simp[G,stepG,stepG.exec,fr]) (h T K)
theorem JL.scope{c:Code}(h:JL J Q b n L ds (.code c:: .inScope c::k) cs s):JL J Q b n L ds (.code (.scope c)::k) cs s:=λT K=>Judge.Cr V (λw=>by simp[G,stepG,stepG.exec,fr]) (h T K)
theorem JY{c:Code}(h:JL J Q b n L ds (.code c:: .inLoop c::k) cs s):JL J Q b n L ds (.code (.loop c)::k) cs s:=λT K=>Judge.Cr V (λw=>by simp[G,stepG,stepG.exec,fr]) (h T K)
theorem JL.again{c:Code}(h:JL J Q b n L ds (.code c:: .inLoop c::k) cs s):JL J Q b n L ds (.inLoop c::k) cs s:=λT K=>Judge.Cr V (λw=>by simp[G,stepG,stepG.exec,fr]) (h T K)
theorem JL.exit{i:Nat}{k':Li_}(K:exitTo i k=some k')(h:JL J Q b n L ds k' cs s):JL J Q b n L ds (.code (.exit i)::k) cs s:=λT O=>Judge.Cr V (λw=>by simp[G,stepG,stepG.exec,fr,K]) (h T O)
theorem QR(T:Av_)(todo:Li_)(x:Operand):(fr b T ds todo).eval x=A7 T x:=by cases x<;>rfl
theorem Qy(T:Av_)(todo:Li_):(fr b T ds todo).eval=A7 T:=funext (QR T todo)
theorem JL.cond{c:Operand}{x y:Code}{t:Bool}(U:ev L c=some (.bool t))(h:JL J Q b n L ds (.code (if t then x else y)::k) cs s):JL J Q b n L ds (.code (.cond c x y)::k) cs s:=λT O=>
 Judge.Cr V (λw=>by
  have K:=QR (b:=b) (ds:=ds) T (.code (.cond c x y)::k) c
  rw[O.ev U] at K
  simp only[fr] at K
  simp[G,stepG,stepG.exec,fr,K]) (h T O)
theorem EP{c:Operand}{x y:Code}(K:ev L c=some (.bool true))(h:JL J Q b n L ds (.code x::k) cs s):JL J Q b n L ds (.code (.cond c x y)::k) cs s:=JL.cond K h
theorem Cx{c:Operand}{x y:Code}(K:ev L c=some (.bool false))(h:JL J Q b n L ds (.code y::k) cs s):JL J Q b n L ds (.code (.cond c x y)::k) cs s:=JL.cond K h
theorem Qs{c:Operand}{x y:Code}{t:Bool}(K:ev L c=some (.bool t))(O:t=true->JL J Q b n L ds (.code x::k) cs s)(U:t=false->JL J Q b n L ds (.code y::k) cs s):JL J Q b n L ds (.code (.cond c x y)::k) cs s:=by
 cases t;exact JL.cond K (U V);exact JL.cond K (O V)
theorem M3{c:Operand}{x y:Code}{p:Prop} [Decidable p] (K:ev L c=some (.bool (decide p)))(O:p->JL J Q b n L ds (.code x::k) cs s)(U:¬p->JL J Q b n L ds (.code y::k) cs s):JL J Q b n L ds (.code (.cond c x y)::k) cs s:=
 Qs K (λh=>O (nj h)) (λh=>U (of_decide_eq_false h))
theorem JL.region{id:Nat}{ops:Ao_}(h:JL J Q b n L ds (.inRegion ops (List.range ops.size)::k) cs s):JL J Q b n L ds (.code (.region id ops false)::k) cs s:=λT K=>Judge.Cr V (λw=>by simp[G,stepG,stepG.exec,fr]) (h T K)
theorem JL.done{ops:Ao_}(h:JL J Q b n L ds k cs s):JL J Q b n L ds (.inRegion ops []::k) cs s:=λT K=>Judge.Cr V (λw=>by simp[G,stepG,stepG.exec,fr]) (h T K)
theorem Q9{id:Nat}{ops:Ao_}(K:s.q=false)(hm:P.follows .mixedOrders=true)(h:∀t,JL J Q b n L ds (.inRegion ops (Region.linearise .any ops t)::k) cs s):JL J Q b n L ds (.code (.region id ops true)::k) cs s:=λT O=>by
 refine J.step ⟨rfl,λw f=>⟨_,s,{w with drawn:=w.drawn+1},#[],?_,h (w.tape w.drawn (.order b.fn id)) T O,⟨f.e,f.h,f.d⟩,⟨la _,λ_ _ _=>rfl,λ_ h=>.inl h,λ_ _ h=>h,λ_ h=>.inl h,rfl,rfl,rfl⟩,by simp⟩,λe=>by subst e;cases K⟩
 simp[G,stepG,stepG.exec,fr,choose,Sem.run,Question.forced,Question.cut,Region.schedule,hm]
theorem Ei(T:Av_)(ops:Ao_)(i:Nat)(rest:List Nat)(v:Value)(o:Oper)(K:ops[i]?=some o):
  (fr b T ds (.inRegion ops (i::rest)::k)).finish v=fr b (Cb T o.dst v) ds (.inRegion ops rest::k):=by
 cases hd:o.dst<;>simp[Frame.finish,fr,K,hd,Cb]
theorem stepG_op{main:Bool}{ops:Ao_}{i:Nat}{rest:List Nat}{o:Oper}(K:ops[i]?=some o)(hw:Region.wanted o (yielded ops T)=true):
  stepG P main (G (fr b T ds (.inRegion ops (i::rest)::k)) cs) w=
   match b.roundOf,o.op with
   | some l,.defer c=>stepG.apply P true (fr b T ds (.inRegion ops (i::rest)::k)) cs none (do Instr.deferInRound l (← resolve (A7 T) c o.type);pure .skip) w
   | _,_=>stepG.apply P true (fr b T ds (.inRegion ops (i::rest)::k)) cs none (execOp (A7 T) o) w:=by
 have he:=Qy (b:=b) (ds:=ds) T (.inRegion ops (i::rest)::k);simp only[fr] at he;simp only[G,stepG,stepG.exec,fr,K,lW,Option.getD_some,hw,lQ,stepG.oper,Frame.oper?,he]
 rfl
theorem EK(T:Av_)(todo:Li_):(fr b T ds todo).fn=b.fn:=rfl
theorem GJ(T:Av_)(todo:Li_):(fr b T ds todo).todo=todo:=rfl
def upon(J:Judge P)(Q:Gs_)(b:Frame)(T:Av_)(ds:Ld_)(ops:Ao_)(i:Nat)(rest:List Nat)(k:Li_)(cs:Lf_)(dst:Option Tmp):Next->St->Prop
 | .value v,s=>J.ok Q (G (fr b (Cb T dst v) ds (.inRegion ops rest::k)) cs) s
 | .skip,s=>J.ok Q (G (fr b (Cb T dst undef) ds (.inRegion ops rest::k)) cs) s
 | .defer d,s=>J.ok Q (G (fr b (Cb T dst undef) (d::ds) (.inRegion ops rest::k)) cs) s
 | .enter f args,s=>J.ok Q (G (Frame.enter P f args .normal) (fr b T ds (.inRegion ops (i::rest)::k)::cs)) s
 | .round l f tmps assign body,s=>J.ok Q (G (Frame.round l f tmps assign body .normal) (fr b T ds (.inRegion ops (i::rest)::k)::cs)) s
 | _,_=>False
def IN(J:Judge P)(Q:Gs_)(b:Frame)(T:Av_)(ds:Ld_)(ops:Ao_)(i:Nat)(rest:List Nat)(k:Li_)(cs:Lf_):Halt->St->Prop
 | .panic v,s=>J.ok Q (G ((fr b T ds (.inRegion ops (i::rest)::k)).raise [{v,recovered:=false}]) cs) s
 | _,_=>False
theorem Ov{s:St}{fn:FuncId}(h:∀e∈es,Ev s w w' e):∀e∈seen P fn es,Ev s w w' e:=λe he=>h e (mem_seen he)
theorem Judge.oper{ops:Ao_}{i:Nat}{rest:List Nat}{o:Oper}(ae:ops[i]?=some o)(hw:Region.wanted o (yielded ops T)=true)(al:b.kind≠ .early)
  (hd:b.roundOf=none∨∀c,o.op≠ .defer c)
  (h:lp P (execOp (A7 T) o) s (upon J Q b T ds ops i rest k cs o.dst) (IN J Q b T ds ops i rest k cs)):
  J.ok Q (G (fr b T ds (.inRegion ops (i::rest)::k)) cs) s:=by
 have U:((fr b T ds (.inRegion ops (i::rest)::k)).kind==CallKind.early)=false:=by simpa [fr] using al
 have aj:∀w,stepG P J.main (G (fr b T ds (.inRegion ops (i::rest)::k)) cs) w=stepG.apply P true (fr b T ds (.inRegion ops (i::rest)::k)) cs none (execOp (A7 T) o) w:=by
  intro w;rw[stepG_op ae hw];split;rename_i l c ak e2;rcases hd with hd | hd;rw[hd] at ak;cases ak;exact absurd e2 (hd c);rfl
 refine J.step ⟨V,λw f=>?_,λe=>?_⟩
 rotate_left
 .subst e;simp only[aj];have ag:=λv=>Ei (b:=b) (ds:=ds) (k:=k) T ops i rest v o ae;let⟨es,he,Y,h⟩:=Of _ h;have ab:seen P b.fn es=#[]:=NM Y;rcases h with⟨ah,K,O⟩ | ⟨x,K,O⟩
  .cases ah with
   | value v=>exact⟨_,λw=>by simp[stepG.apply,O,U,GStep.after,G,ag,EK,he,ab],K⟩
   | skip=>exact⟨_,λw=>by simp[stepG.apply,O,U,GStep.after,G,ag,EK,he,ab],K⟩
   | enter g args=>exact⟨_,λw=>by simp[stepG.apply,O,U,GStep.after,G,EK,GJ,he,ab],K⟩
   | round l g tm as am=>exact⟨_,λw=>by simp[stepG.apply,O,U,GStep.after,G,EK,GJ,he,ab],K⟩
   | defer d=>
    have ai:=Ei (b:=b) (ds:=d::ds) (k:=k) T ops i rest undef o ae;exact⟨_,λw=>by rw[← ai];simp[stepG.apply,O,U,GStep.after,G,EK,GJ,he,ab];rfl,K⟩
   | _=>exact K.elim
  .cases x with
   | panic v=>exact⟨_,λw=>by simp[stepG.apply,O,U,GStep.after,G,EK,GJ,he,ab],K⟩
   | _=>exact K.elim
 let⟨s',Z,aa,an,K⟩:=Mi _ h f;rw[aj];have Y:=Ov (P:=P) (fn:=b.fn) an;have ag:=λv=>Ei (b:=b) (ds:=ds) (k:=k) T ops i rest v o ae;cases O:(execOp (A7 T) o).run P w with
 | ok ah w'=>
  rw[O] at Z aa K Y;simp only[Jx] at Z aa Y;cases ah with
  | value v=>exact⟨_,s',w',seen P b.fn ((execOp (A7 T) o).events P w #[])++ #[],by simp[stepG.apply,O,U,GStep.after,G,ag,EK],K,Z,aa,by simpa using Y⟩
  | skip=>exact⟨_,s',w',seen P b.fn ((execOp (A7 T) o).events P w #[])++ #[],by simp[stepG.apply,O,U,GStep.after,G,ag,EK],K,Z,aa,by simpa using Y⟩
  | enter g args=>exact⟨_,s',w',seen P b.fn ((execOp (A7 T) o).events P w #[])++ #[],by simp[stepG.apply,O,U,GStep.after,G,EK,GJ],K,Z,aa,by simpa using Y⟩
  | round l g tm as am=>exact⟨_,s',w',seen P b.fn ((execOp (A7 T) o).events P w #[])++ #[],by simp[stepG.apply,O,U,GStep.after,G,EK,GJ],K,Z,aa,by simpa using Y⟩
  | defer d=>
   have ai:=Ei (b:=b) (ds:=d::ds) (k:=k) T ops i rest undef o ae;exact⟨_,s',w',seen P b.fn ((execOp (A7 T) o).events P w #[])++ #[],by
    rw[← ai];simp[stepG.apply,O,U,GStep.after,G,EK,GJ];rfl,K,Z,aa,by simpa using Y⟩
  | _=>exact K.elim
 | halt x w'=>
  rw[O] at Z aa K Y;simp only[Jx] at Z aa Y;cases x with
  | panic v=>exact⟨_,s',w',seen P b.fn ((execOp (A7 T) o).events P w #[])++ #[],by simp[stepG.apply,O,U,GStep.after,G,EK,GJ],K,Z,aa,by simpa using Y⟩
  | _=>exact K.elim
theorem Judge.unwanted{ops:Ao_}{i:Nat}{rest:List Nat}{o:Oper}(K:ops[i]?=some o)(hw:Region.wanted o (yielded ops T)=false)
  (h:J.ok Q (G (fr b (Cb T o.dst undef) ds (.inRegion ops rest::k)) cs) s):J.ok Q (G (fr b T ds (.inRegion ops (i::rest)::k)) cs) s:=by
 refine Judge.Cr V (λw=>?_) h;have O:=Ei (b:=b) (ds:=ds) (k:=k) T ops i rest undef o K;rw[← O];simp[G,stepG,stepG.exec,fr,K,hw]
end
def Yl(P:Program)(o:Oper)(ρ:Operand->Value)(s:St)(v:Value):Prop:=lp P (execOp ρ o) s (λK s'=>K=.value v/\s'=s) (λ_ _=>False)
def Ed(L:Env)(ρ:Operand->Value):Prop:=∀x v,ev L x=some v->ρ x=v
def AQ(L:Env)(ops:Ao_)(o:Oper):Option Bool:=
 match o.guard with
 | none=>some true
 | some (j,K)=>match(ops[j]?).bind (·.dst) with
  | some d=>match look L d with
   | some (.bool b)=>some (b==K)
   | some (.tuple _)=>some false
   | _=>none
  | none=>none
section
variable {b:Frame}{n:Nat}
theorem Has.El(h:Has n L T):Ed L (A7 T):=λ_ _ e=>h.ev e
theorem getD_some{d:Nat}{c:Bool}(h:T.getD d undef=.bool c):T[d]?=some (.bool c):=by
 rw[f4] at h;cases K:T[d]? with
 | none=>rw[K] at h;simp[undef] at h
 | some v=>rw[K] at h;simp at h;rw[h]
theorem Cd{ops:Ao_}{o:Oper}{c:Bool}(h:Has n L T)(hw:AQ L ops o=some c):Region.wanted o (yielded ops T)=c:=by
 unfold AQ at hw;unfold Region.wanted;cases K:o.guard with
 | none=>rw[K] at hw;simpa using hw
 | some p=>
  obtain⟨j,Y⟩:=p;rw[K] at hw;simp only at hw ⊢;cases hd:(ops[j]?).bind (·.dst) with
  | none=>rw[hd] at hw;simp at hw
  | some d=>
   rw[hd] at hw;simp only at hw;cases O:look L d with
   | none=>rw[O] at hw;simp at hw
   | some v=>
    rw[O] at hw;cases v with
    | bool x=>
     simp only[lP] at hw;have:=getD_some (h.at_ d _ O);simp only[yielded,hd,Option.bind_some,this];simp[← hw]
    | tuple c=>
     simp only[lP] at hw;have K:=h.at_ d _ O;simp only[yielded,hd,Option.bind_some];cases U:T[d]? with
     | none=>simp[← hw]
     | some u=>
      have:u=.tuple c:=by rw[f4,U] at K;exact K
      subst this;simp[← hw]
    | _=>simp at hw
def CQ:Op->Bool | .defer _=>true | _=>false
def BH(b:Frame)(n:Nat)(o:Oper):Bool:=(b.kind != .early)&&(A6 n o.dst&& !CQ o.op)
theorem Yl.out{P:Program}{o:Oper}{ρ:Operand->Value}{s:St}{v:Value}(h:Yl P o ρ s v):Pal.lp P (execOp ρ o) s (λK s'=>K=.value v/\s'=s) (λ_ _=>False):=by unfold Yl at h;exact h
theorem Aj{ops:Ao_}{i:Nat}{rest:List Nat}{o:Oper}{v:Value}(U:ops[i]?=some o)(hw:AQ L ops o=some true)(K:BH b n o=true)
  (h:∀ρ,Ed L ρ->Yl P o ρ s v) (Y:JL J Q b n (Az L o.dst v) ds (.inRegion ops rest::k) cs s):
  JL J Q b n L ds (.inRegion ops (i::rest)::k) cs s:=λT O=>by
 simp only[BH,f5] at K
 obtain⟨K,Z,hd⟩:=K
 refine Judge.oper U (Cd O hw) (by simpa using K) (.inr λc aa=>by rw[aa] at hd;simp[CQ] at hd) (CH _ (h _ O.El).out ?_ ?_)
 .rintro ae s' ⟨rfl,rfl⟩
  exact Y _ (O.put Z v)
 .intro _ _ ab;exact ab.elim
theorem Bw{ops:Ao_}{i:Nat}{rest:List Nat}{o:Oper}(O:ops[i]?=some o)(hw:AQ L ops o=some false)(U:A6 n o.dst=true)
  (Y:JL J Q b n (Az L o.dst undef) ds (.inRegion ops rest::k) cs s):
  JL J Q b n L ds (.inRegion ops (i::rest)::k) cs s:=λ_ K=>
 Judge.unwanted O (Cd K hw) (Y _ (K.put U undef))
theorem JL.op{ops:Ao_}{i:Nat}{rest:List Nat}{o:Oper}(aa:ops[i]?=some o)(hw:AQ L ops o=some true)(K:BH b n o=true)
  (h:∀ρ,Ed L ρ->lp P (execOp ρ o) s (λU s'=>match U with
   | .value v=>JL J Q b n (Az L o.dst v) ds (.inRegion ops rest::k) cs s'
   | .skip=>JL J Q b n (Az L o.dst undef) ds (.inRegion ops rest::k) cs s'
   | _=>False) (λ_ _=>False)):
  JL J Q b n L ds (.inRegion ops (i::rest)::k) cs s:=λT O=>by
 simp only[BH,f5] at K
 obtain⟨K,Z,hd⟩:=K
 refine Judge.oper aa (Cd O hw) (by simpa using K) (.inr λc ab=>by rw[ab] at hd;simp[CQ] at hd) (CH _ (h _ O.El) ?_ ?_)
 .intro U s' Y
  cases U with
  | value v=>exact Y _ (O.put Z v)
  | skip=>exact Y _ (O.put Z undef)
  | _=>exact Y.elim
 .intro _ _ ae;exact ae.elim
end
variable {ρ:Operand->Value}{y z:Operand}{d:Option Tmp}{t u ty:TypeId}{p:String}{af:Ae_}{g:On_}{kd kd':IntKind}{m':Int}
variable{l:Nat}{ats:Array TypeId}
section
variable {x:Operand}{v:Value}{m:Int}
theorem Yl.move(K:ρ x=v):Yl P ⟨d,.move x,ty,p,af,g⟩ ρ s v:=by simp[Yl,execOp,lp,pure,K]
theorem Yl.assign(K:ρ x=v):Yl P ⟨d,.assign x,ty,p,af,g⟩ ρ s v:=by simp[Yl,execOp,lp,pure,K]
theorem FG(K:ρ z=.bool true)(O:ρ x=v):Yl P ⟨d,.pick z x y,ty,p,af,g⟩ ρ s v:=by simp[Yl,execOp,lp,pure,bind,Sem.bind,asBool,K,O]
theorem Er(K:ρ z=.bool false)(O:ρ y=v):Yl P ⟨d,.pick z x y,ty,p,af,g⟩ ρ s v:=by simp[Yl,execOp,lp,pure,bind,Sem.bind,asBool,K,O]
theorem Yl.lss(K:ρ x=.int kd m)(O:ρ y=.int kd m'):Yl P ⟨d,.binOp .lss t x y u,ty,p,af,g⟩ ρ s (.bool (decide (m<m'))):=by
 simp[Yl,execOp,lp,pure,bind,Sem.bind,K,O,eqGuard,Go.binOp,Op.intCmp]
theorem Yl.leq(K:ρ x=.int kd m)(O:ρ y=.int kd m'):Yl P ⟨d,.binOp .leq t x y u,ty,p,af,g⟩ ρ s (.bool (decide (m<=m'))):=by
 simp[Yl,execOp,lp,pure,bind,Sem.bind,K,O,eqGuard,Go.binOp,Op.intCmp]
theorem Yl.gtr(K:ρ x=.int kd m)(O:ρ y=.int kd m'):Yl P ⟨d,.binOp .gtr t x y u,ty,p,af,g⟩ ρ s (.bool (decide (m'<m))):=by
 simp[Yl,execOp,lp,pure,bind,Sem.bind,K,O,eqGuard,Go.binOp,Op.intCmp]
theorem Yl.geq(K:ρ x=.int kd m)(O:ρ y=.int kd m'):Yl P ⟨d,.binOp .geq t x y u,ty,p,af,g⟩ ρ s (.bool (decide (m'<=m))):=by
 simp[Yl,execOp,lp,pure,bind,Sem.bind,K,O,eqGuard,Go.binOp,Op.intCmp]
theorem Yl.eql(K:ρ x=.int kd m)(O:ρ y=.int kd m'):Yl P ⟨d,.binOp .eql t x y u,ty,p,af,g⟩ ρ s (.bool (decide (m=m'))):=by
 simp[Yl,execOp,lp,pure,bind,Sem.bind,K,O,eqGuard,Go.binOp,Op.intCmp];rfl
theorem Yl.neq(K:ρ x=.int kd m)(O:ρ y=.int kd m'):Yl P ⟨d,.binOp .neq t x y u,ty,p,af,g⟩ ρ s (.bool (!decide (m=m'))):=by
 simp[Yl,execOp,lp,pure,bind,Sem.bind,K,O,eqGuard,Go.binOp,Op.intCmp];rfl
theorem Yl.add(K:ρ x=.int kd m)(O:ρ y=.int kd m'):Yl P ⟨d,.binOp .add t x y u,ty,p,af,g⟩ ρ s (.int kd (kd.wrap (m+m'))):=by
 simp[Yl,execOp,lp,pure,bind,Sem.bind,K,O,eqGuard,Go.binOp,Op.intArith]
theorem Yl.sub(K:ρ x=.int kd m)(O:ρ y=.int kd m'):Yl P ⟨d,.binOp .sub t x y u,ty,p,af,g⟩ ρ s (.int kd (kd.wrap (m - m'))):=by
 simp[Yl,execOp,lp,pure,bind,Sem.bind,K,O,eqGuard,Go.binOp,Op.intArith]
theorem Yl.mul(K:ρ x=.int kd m)(O:ρ y=.int kd m'):Yl P ⟨d,.binOp .mul t x y u,ty,p,af,g⟩ ρ s (.int kd (kd.wrap (m*m'))):=by
 simp[Yl,execOp,lp,pure,bind,Sem.bind,K,O,eqGuard,Go.binOp,Op.intArith]
theorem H5{a:Int}(h: -9223372036854775808<=a/\a<=9223372036854775807):IntKind.i64.wrap a=a:=by
 simp only[IntKind.wrap,IntKind.bits,IntKind.signed];simp;split<;>omega
theorem VL(K:ρ x=.int .i64 m)(O:ρ y=.int .i64 m')(hb: -9223372036854775808<=m+m'/\m+m'<=9223372036854775807):Yl P ⟨d,.binOp .add t x y u,ty,p,af,g⟩ ρ s (.int .i64 (m+m')):=by
 have:=Yl.add (P:=P) (s:=s) (d:=d) (t:=t) (u:=u) (ty:=ty) (p:=p) (af:=af) (g:=g) K O;rwa[H5 hb] at this
theorem VM(K:ρ x=.int .i64 m)(O:ρ y=.int .i64 m')(hb: -9223372036854775808<=m - m'/\m - m'<=9223372036854775807):Yl P ⟨d,.binOp .sub t x y u,ty,p,af,g⟩ ρ s (.int .i64 (m - m')):=by
 have:=Yl.sub (P:=P) (s:=s) (d:=d) (t:=t) (u:=u) (ty:=ty) (p:=p) (af:=af) (g:=g) K O;rwa[H5 hb] at this
theorem Wl(K:ρ x=.int .i64 m)(O:ρ y=.int .i64 m')(hb: -9223372036854775808<=m*m'/\m*m'<=9223372036854775807):Yl P ⟨d,.binOp .mul t x y u,ty,p,af,g⟩ ρ s (.int .i64 (m*m')):=by
 have:=Yl.mul (P:=P) (s:=s) (d:=d) (t:=t) (u:=u) (ty:=ty) (p:=p) (af:=af) (g:=g) K O;rwa[H5 hb] at this
theorem Yl.rem(K:ρ x=.int kd m)(O:ρ y=.int kd m')(U:m'≠0):Yl P ⟨d,.binOp .rem t x y u,ty,p,af,g⟩ ρ s (.int kd (m.tmod m')):=by
 simp[Yl,execOp,lp,pure,bind,Sem.bind,K,O,eqGuard,Go.binOp,Op.intDiv,U]
theorem Yl.quo(K:ρ x=.int kd m)(O:ρ y=.int kd m')(U:m'≠0):Yl P ⟨d,.binOp .quo t x y u,ty,p,af,g⟩ ρ s (.int kd (kd.wrap (m.tdiv m'))):=by
 simp[Yl,execOp,lp,pure,bind,Sem.bind,K,O,eqGuard,Go.binOp,Op.intDiv,U]
theorem Yl.and(K:ρ x=.int kd m)(O:ρ y=.int kd m'):Yl P ⟨d,.binOp .and t x y u,ty,p,af,g⟩ ρ s (.int kd (kd.wrap (BitVec.ofInt kd.bits m&&& BitVec.ofInt kd.bits m').toNat)):=by
 simp[Yl,execOp,lp,pure,bind,Sem.bind,K,O,eqGuard,Go.binOp,Op.intBits]
theorem Yl.xor(K:ρ x=.int kd m)(O:ρ y=.int kd m'):Yl P ⟨d,.binOp .xor t x y u,ty,p,af,g⟩ ρ s (.int kd (kd.wrap (BitVec.ofInt kd.bits m ^^^ BitVec.ofInt kd.bits m').toNat)):=by
 simp[Yl,execOp,lp,pure,bind,Sem.bind,K,O,eqGuard,Go.binOp,Op.intBits]
theorem Yl.shl(K:ρ x=.int kd m)(O:ρ y=.int kd' m')(U:0<=m'):Yl P ⟨d,.binOp .shl t x y u,ty,p,af,g⟩ ρ s (.int kd (kd.wrap (m*2^(min m'.toNat kd.bits)))):=by
 have:¬m'<0:=by omega
 simp[Yl,execOp,lp,pure,bind,Sem.bind,K,O,eqGuard,Go.binOp,Op.shift,this]
theorem Yl.shr(K:ρ x=.int kd m)(O:ρ y=.int kd' m')(U:0<=m'):Yl P ⟨d,.binOp .shr t x y u,ty,p,af,g⟩ ρ s (.int kd (m.fdiv (2^(min m'.toNat kd.bits)))):=by
 have:¬m'<0:=by omega
 simp[Yl,execOp,lp,pure,bind,Sem.bind,K,O,eqGuard,Go.binOp,Op.shift,this]
theorem Yl.not{c:Bool}(K:ρ x=.bool c):Yl P ⟨d,.unOp .not t x,ty,p,af,g⟩ ρ s (.bool (!c)):=by
 simp[Yl,execOp,lp,pure,bind,Sem.bind,K,Op.unary]
theorem Wh(K:ρ x=.int .i64 m)(hb: -9223372036854775808<= -m/\ -m<=9223372036854775807):Yl P ⟨d,.unOp .neg t x,ty,p,af,g⟩ ρ s (.int .i64 (-m)):=by
 simp[Yl,execOp,lp,pure,bind,Sem.bind,K,Op.unary,Op.intArith,H5 hb]
theorem Ek(K:P.underlying t=some (.int kd'))(hu:P.underlying u=some (.int kd))(O:ρ x=.int kd' m):Yl P ⟨d,.convert t u x,ty,p,af,g⟩ ρ s (.int kd (kd.wrap m)):=by
 simp[Yl,execOp,lp,pure,bind,Sem.bind,O,Go.convert,underlying,program,K,hu,Conv.intToInt]
theorem Yl.extract{vs:Av_}{i:Nat}(K:ρ x=.tuple vs)(hi:vs[i]?=some v):Yl P ⟨d,.extract x i,ty,p,af,g⟩ ρ s v:=by
 simp[Yl,execOp,lp,pure,bind,Sem.bind,K,Instr.extract,hi]
theorem Yl.nilCheck{a:Addr}(K:ρ x=.pointer (some a)):Yl P ⟨d,.nilCheck x,ty,p,af,g⟩ ρ s (.pointer (some a)):=by
 simp[Yl,execOp,lp,pure,K]
theorem Yl.len{a:Option Addr}{e:TypeId}{c:Nat}(K:ats[0]?=some t)(O:P.underlying t=some (.slice e))(U:ρ x=.slice a l c):
  Yl P ⟨d,.call ⟨.builtin .len,#[x],ats⟩,ty,p,af,g⟩ ρ s (.int .i64 l):=by
 simp[Yl,execOp,lp,pure,bind,Sem.bind,U,resolve,invoke,builtin,Builtin.len_,K,underlying,program,O,goInt]
theorem H3{dsc:TypeDesc}(K:P.underlying t=some dsc)(O:∀ms,dsc≠ .interface ms)(U:ρ x=v):Yl P ⟨d,.makeInterface t x,ty,p,af,g⟩ ρ s (.iface t v):=by
 have:lp P (Instr.makeInterface t v) s (λr s'=>r=.iface t v/\s'=s) (λ_ _=>False):=by
  unfold Instr.makeInterface;simp only[lp,bind,Sem.bind,underlying,program,K];cases dsc<;>first | exact⟨rfl,rfl⟩ | exact absurd rfl (O _)
 simp only[Yl,execOp,U];exact Av _ _ (CH _ this (λr s' ⟨Y,Z⟩=>⟨by rw[Y],Z⟩) (λ_ _ h=>h))
theorem Gh{fn:Fn}{a c:Array Operand}{va K:Av_}(O:a.map ρ=va)(U:c.map ρ=K):Yl P ⟨d,.makeFunc fn a c,ty,p,af,g⟩ ρ s (.func fn va K):=by
 simp[Yl,execOp,lp,pure,bind,Sem.bind,Instr.makeFunc,O,U]
end
attribute [irreducible] Yl
def Le(E E':LH):Prop:=∀b o,E b=some o->E' b=some o
theorem Le.refl(E:LH):Le E E:=λ_ _ h=>h
theorem Le.trans{E E' E0:LH}(h:Le E E')(k:Le E' E0):Le E E0:=λb o x=>k b o (h b o x)
theorem BR{E:LH}:Le E E:=Le.refl E
theorem Le.M{a b c:LH}(h:Le a b)(k:Le b c):Le a c:=h.trans k
def AM:List (Nat×Obj)->LH->LH
 | [],H=>H
 | (b,o)::B,H=>λx=>if x=b then some o else AM B H x
def mk(E H:LH)(B:List (Nat×Obj)):St:=⟨E,AM B H,false⟩
def Nd(E H:LH):List (Nat×Obj)->Prop
 | []=>True
 | (b,_)::B=>E b=none/\H b=none/\(∀p∈B,p.1≠b)/\Nd E H B
theorem PW{H:LH}{b:Nat}:∀{B:List (Nat×Obj)},H b=none->(∀p∈B,p.1≠b)->AM B H b=none
 | [],h,_=>h
 | (c,o)::B,h,hb=>by
  have K:b≠c:=λe=>hb (c,o) (by simp) e.symm
  simp only[AM,d7 K]
  exact PW h λp O=>hb p (lc _ O)
theorem FF{H:LH}{b:Nat}:∀{B:List (Nat×Obj)},AM B H b=none->H b=none/\∀p∈B,p.1≠b
 | [],h=>⟨h,by simp⟩
 | (c,o)::B,h=>by
  simp only[AM] at h
  split at h;cases h;rename_i O;let⟨U,Y⟩:=FF h;refine⟨U,λp K=>?_⟩;rcases li.1 K with rfl | K;exact λe=>O e.symm;exact Y p K
theorem Pt{H:LH}{x:Nat}{o:Obj}{r:Nat}:∀{B:List (Nat×Obj)},(∀p∈B,p.1≠r)->AM (B++ [(r,o)]) H x=if x=r then some o else AM B H x
 | [],_=>rfl
 | (c,u)::B,h=>by
  simp only[lX,AM]
  by_cases e:x=c
  .subst e
   have:x≠r:=λe=>h (x,u) (by simp) e;simp[this]
  .simp only [d7 e];exact Pt λp K=>h p (lc _ K)
theorem Nd.append{E H:LH}{r:Nat}{o:Obj}(O:E r=none)(U:H r=none):∀{B:List (Nat×Obj)},(∀p∈B,p.1≠r)->Nd E H B->Nd E H (B++ [(r,o)])
 | [],_,_=>⟨O,U,by simp,trivial⟩
 | (c,u)::B,h,Y=>by
  obtain⟨Z,aa,ab,ae⟩:=Y
  refine⟨Z,aa,λp K=>?_,Nd.append O U (λp K=>h p (lc _ K)) ae⟩
  rcases lm.1 K with K | K;exact ab p K;simp at K;subst K;exact λe=>h (c,u) (by simp) e.symm
theorem H9{E H:LH}{b:Nat}{o:Obj}:∀{B:List (Nat×Obj)}{i:Nat},Nd E H B->B[i]?=some (b,o)->AM B H b=some o
 | [],_,_,h=>by simp at h
 | (c,u)::B,0,_,h=>by simp at h;obtain⟨rfl,rfl⟩:=h;simp[AM]
 | (c,u)::B,i+1,K,h=>by
  simp at h
  have O:b≠c:=K.2.2.1 (b,o) (ll h)
  simp only[AM,d7 O]
  exact H9 K.2.2.2 h
theorem P9{E H:LH}{b:Nat}{o o':Obj}:∀{B:List (Nat×Obj)}{i:Nat},Nd E H B->B[i]?=some (b,o)->AM (B.set i (b,o')) H=λx=>if x=b then some o' else AM B H x
 | [],_,_,h=>by simp at h
 | (c,u)::B,0,_,h=>by
  simp at h;obtain⟨rfl,rfl⟩:=h
  funext x
  simp only[mS,AM]
  split<;>rfl
 | (c,u)::B,i+1,K,h=>by
  simp at h
  have O:b≠c:=K.2.2.1 (b,o) (ll h)
  funext x
  simp only[na,AM]
  rw[P9 K.2.2.2 h]
  by_cases e:x=c;subst e;simp[lu O];simp[e]
variable{o':Obj}
theorem Nd.set{E H:LH}{b:Nat}:∀{B:List (Nat×Obj)}{i:Nat},Nd E H B->B[i]?=some (b,o)->Nd E H (B.set i (b,o'))
 | [],_,_,h=>by simp at h
 | (c,u)::B,0,K,h=>by simp at h;obtain⟨rfl,rfl⟩:=h;exact K
 | (c,u)::B,i+1,K,h=>by
  simp at h
  refine⟨K.1,K.2.1,λp O=>?_,K.2.2.2.set h⟩
  have hm:=mK O
  rcases hm with hm | rfl;exact K.2.2.1 p hm;exact K.2.2.1 (b,o) (ll h)
theorem Nd.QN{E H:LH}{b:Nat}{o:Obj}:∀{B:List (Nat×Obj)}{i:Nat},Nd E H B->B[i]?=some (b,o)->E b=none
 | [],_,_,h=>by simp at h
 | (c,u)::B,0,K,h=>by simp at h;obtain⟨rfl,rfl⟩:=h;exact K.1
 | (c,u)::B,i+1,K,h=>by simp at h;exact Nd.QN K.2.2.2 h
theorem Mb{E H:LH}{B:List (Nat×Obj)}{i b:Nat}(K:Nd E H B)(h:B[i]?=some (b,o)):(mk E H B).get b=some o:=by
 unfold St.get mk;simp only[K.QN h,H9 K h]
theorem SR{E H:LH}{B:List (Nat×Obj)}{b:Nat}(h:E b=some o):(mk E H B).get b=some o:=by
 unfold St.get mk;simp only[h]
variable{off:Nat}
theorem QL{E H:LH}{B:List (Nat×Obj)}{i b:Nat}{c:Av_}{e:TypeId}{f:Nat×Nat}{v:Value}(K:Nd E H B)(h:B[i]?=some (b,.cells c e f))(O:c[off]?=some v):(mk E H B).cell? ⟨b,off,none⟩=some v:=by
 unfold St.cell?;rw[Mb K h];exact O
theorem T2{E H:LH}{B:List (Nat×Obj)}{b:Nat}{c:Av_}{e:TypeId}{f:Nat×Nat}{v:Value}(h:E b=some (.cells c e f))(K:c[off]?=some v):(mk E H B).cell? ⟨b,off,none⟩=some v:=by
 unfold St.cell?;rw[SR h];exact K
variable {E H:LH}{B B':List (Nat×Obj)}
variable{bk r:Nat}{args:Av_}{X:Halt->St->Prop}{todo:Li_}{fn:Func}{vs:Lv_}
section
variable {b:Frame}{n:Nat}
theorem I6(O:(mk E H B).E r=none)(U:(mk E H B).H r=none)(o:Obj)(Y:Nd E H B):Nd E H (B++ [(r,o)])/\(mk E H B).upd r o=mk E H (B++ [(r,o)]):=by
 let⟨Z,K⟩:=FF U;refine⟨Nd.append O Z K Y,?_⟩;unfold St.upd mk;congr 1;funext x;exact(Pt K).symm
theorem WT{i:Nat}(K:Nd E H B)(h:B[i]?=some (bk,o)):(mk E H B).upd bk o'=mk E H (B.set i (bk,o')):=by
 unfold St.upd mk;congr 1;exact(P9 K h).symm
theorem JL.drop(B':List (Nat×Obj))(h:∀p∈B',∃i:Nat,B[i]?=some p)(U:Nd E H B)(k':JL J Q b n L ds k cs (mk E H B')):JL J Q b n L ds k cs (mk E H B):=
 JL.ghost (s':=mk E H B') ⟨λ_ _ h=>h,λx o O=>by
  show AM B H x=some o
  have key:∀{B':List (Nat×Obj)},(∀p∈B',∃i:Nat,B[i]?=some p)->AM B' H x=some o->AM B H x=some o:=by
   intro B'
   induction B' with
   | nil=>
    intro _ O
    have ae:∀p∈B,p.1≠x:=by
     intro p K e
     have:∀{B:List (Nat×Obj)},Nd E H B->p∈B->H p.1=none:=by
      intro B U K
      induction B with
      | nil=>simp at K
      | cons q B Y=>
       rcases li.1 K with rfl | K;exact U.2.1;exact Y U.2.2.2 K
     have aa:=this U K
     rw[e] at aa
     have ab:H x=some o:=O
     rw[aa] at ab;cases ab
    have:∀{B:List (Nat×Obj)},(∀p∈B,p.1≠x)->AM B H x=H x:=by
     intro B Z
     induction B with
     | nil=>rfl
     | cons q B Y=>
      have ag:x≠q.1:=λe=>Z q (by simp) e.symm
      obtain⟨c,u⟩:=q
      simp only[AM,d7 ag]
      exact Y λp K=>Z p (lc _ K)
    rw[this ae];exact O
   | cons q B' Y=>
    intro Z O
    obtain⟨c,u⟩:=q
    simp only[AM] at O
    split at O
    .rename_i e;subst e;cases O
     obtain⟨i,hi⟩:=Z (x,o) (by simp)
     exact H9 U hi
    .exact Y (λp K=>Z p (lc _ K)) O
  exact key h O,λ_ _ h=>.inl h,V⟩ k'
theorem KJ{x:Nat}:∀{B:List (Nat×Obj)}{i bk:Nat}{o u:Obj},Nd E H B->B[i]?=some (bk,o)->AM (B.eraseIdx i) H x=some u->x≠bk/\AM B H x=some u
 | [],_,_,_,_,_,h,_=>by simp at h
 | (c,v)::B,0,bk,o,u,O,h,K=>by
  simp at h;obtain⟨rfl,rfl⟩:=h
  simp only[List.eraseIdx_cons_zero] at K
  have U:x≠c:=by
   intro e;subst e;rw[PW O.2.1 O.2.2.1] at K;cases K
  exact⟨U,by simp only[AM,d7 U];exact K⟩
 | (c,v)::B,i+1,bk,o,u,O,h,K=>by
  simp at h;simp only[List.eraseIdx_cons_succ,AM] at K ⊢;split at K;rename_i e;subst e;rw[d5 rfl];exact⟨λe=>O.2.2.1 (bk,o) (ll h) e.symm,K⟩;rename_i e;rw[d7 e];exact KJ O.2.2.2 h K
theorem JL.freeze(i:Nat)(K:Nd E H B)(h:B[i]?=some (bk,o))
  (k':∀E',Le E E'->E' bk=some o->Nd E' H (B.eraseIdx i)->JL J Q b n L ds k cs (mk E' H (B.eraseIdx i))):JL J Q b n L ds k cs (mk E H B):=by
 have ah:=ll h;have ai:E bk=none/\H bk=none:=by
  have:∀{B:List (Nat×Obj)},Nd E H B->(bk,o)∈B->E bk=none/\H bk=none:=by
   intro B K O
   induction B with
   | nil=>simp at O
   | cons q B Y=>
    rcases li.1 O with rfl | O;exact⟨K.1,K.2.1⟩;exact Y K.2.2.2 O
  exact this K ah
 let E':LH:=λx=>if x=bk then some o else E x
 have ab:E' bk=some o:=by simp[E']
 have hle:Le E E':=λx u U=>by
  have:x≠bk:=λe=>by subst e;rw[ai.1] at U;cases U
  simp[E',this,U]
 have aj:Nd E' H (B.eraseIdx i):=by
  have:∀{B:List (Nat×Obj)}{i:Nat},Nd E H B->B[i]?=some (bk,o)->Nd E' H (B.eraseIdx i)/\∀p∈B.eraseIdx i,p.1≠bk:=by
   intro B
   induction B with
   | nil=>intro i _ h;simp at h
   | cons q B Y=>
    obtain⟨c,v⟩:=q;intro i K h;have up:∀{B:List (Nat×Obj)},Nd E H B->(∀p∈B,p.1≠bk)->Nd E' H B:=by
     intro B K ae
     induction B with
     | nil=>trivial
     | cons q B ak=>exact⟨by simpa [E',ae q (by simp)] using K.1,K.2.1,K.2.2.1,ak K.2.2.2 λp O=>ae p (lc _ O)⟩
    cases i with
    | zero=>
     simp at h;obtain⟨rfl,rfl⟩:=h;exact⟨up K.2.2.2 K.2.2.1,K.2.2.1⟩
    | succ i=>
     simp at h;let⟨Z,aa⟩:=Y K.2.2.2 h;have ag:c≠bk:=λe=>K.2.2.1 (bk,o) (ll h) e.symm;refine⟨⟨by simpa [E',ag] using K.1,K.2.1,λp O=>K.2.2.1 p (mN O),Z⟩,λp O=>?_⟩;rcases li.1 O with rfl | O;exact ag;exact aa p O
  exact(this K h).1
 refine JL.ghost (s':=mk E' H (B.eraseIdx i)) ⟨λx u U=>hle x u U,λx u U=>(KJ K h U).2,λx u U=>?_,V⟩ (k' E' hle ab aj);by_cases e:x=bk
 .subst e;right;have:u=o:=by have:E' x=some u:=U;rw[ab] at this;exact(d6 this).symm
  subst this;refine⟨H9 K h,?_⟩;cases al:(mk E' H (B.eraseIdx i)).H x with
  | none=>rfl
  | some y=>exact absurd rfl (KJ K h al).1
 .left;have Z:E' x=some u:=U;have aa:E' x=E x:=by simp[E',e]
  show E x=some u;rw[← aa];exact Z
def Fn(P:Program)(f:FuncId)(args:Av_)(s:St)(R:Value->St->Prop):Prop:=
 ∀(J:Judge P) (Q:Gs_) (c:Frame) (cs:Lf_),(∀v s',R v s'->J.ok Q (G (c.finish v) cs) s')->J.ok Q (G (Frame.enter P f args .normal) (c::cs)) s
def Cz(P:Program)(f:FuncId):Bool:=match P.funcs[f]? with | some fn=> !(fn.name== "runtime.NumGoroutine")&&fn.body.isSome | none=>false
def evs(L:Env):List Operand->Option (Lv_)
 | []=>some []
 | x::xs=>match ev L x,evs L xs with | some v,some vs=>some (v::vs) | _,_=>none
theorem ER{L:Env}{ρ:Operand->Value}(h:Ed L ρ):∀{xs:List Operand}{vs:Lv_},evs L xs=some vs->xs.map ρ=vs
 | [],vs,e=>by simp[evs] at e;subst e;rfl
 | x::xs,vs,e=>by
  simp only[evs] at e
  split at e
  .rename_i v ws K O
   cases e;rw[m3,h x v K,ER h O]
  .cases e
theorem H2{f:FuncId}{s:St}{Q:Next->St->Prop}(K:Cz P f=true)(h:Q (.enter f args) s):lp P (callFunc f args) s Q X:=by
 unfold Cz at K;unfold callFunc;simp only[bind,Sem.bind,program,lp];cases O:P.funcs[f]? with
 | none=>rw[O] at K;cases K
 | some fn=>
  rw[O] at K;simp only[f5,nk] at K;have hb:fn.body.isNone=false:=by cases U:fn.body<;>simp_all
  simp only[K.1,hb,ld,lK];exact h
def Bq(P:Program)(f:FuncId)(L:Env)(n:Nat)(s:St)(v:Value):Prop:=∃fn,P.funcs[f]?=some fn/\∀T,Has n L T->lp P (results fn T) s (λu s'=>u=v/\s'=s) (λ_ _=>False)
theorem Judge.leave{c:Frame}{s:St}{v:Value}(Y:b.kind=.normal)(Z:P.funcs[b.fn]?=some fn)(U:lp P (results fn T) s (λu s'=>u=v/\s'=s) (λ_ _=>False))
  (h:J.ok Q (G (c.finish v) cs) s):J.ok Q (G (Di b T [] todo) (c::cs)) s:=by
 refine J.step ⟨V,λw f=>?_,λe=>?_⟩
 rotate_left
 .subst e;let⟨es,he,ag,U⟩:=Of _ U;have ah:seen P b.fn es=#[]:=NM ag;rcases U with⟨u,⟨rfl,_⟩,O⟩ | ⟨x,K,_⟩;exact⟨_,λw=>by simp[G,stepG,unwind,Di,Z,O,doReturn,Y,GStep.after,he,ah],h⟩;exact K.elim
 let⟨s',aa,ab,ae,K⟩:=Mi _ U f;cases O:(results fn T).run P w with
 | halt x w'=>rw[O] at K;exact K.elim
 | ok u w'=>
  rw[O] at aa ab ae K;obtain⟨rfl,rfl⟩:=K;exact⟨_,s',w',seen P b.fn ((results fn T).events P w #[])++ #[],by simp[G,stepG,unwind,Di,Z,O,doReturn,Y,GStep.after],h,aa,ab,by simp only[nb];exact Ov ae⟩
theorem JL.ret{s:St}{c:Frame}{v:Value}(O:b.kind=.normal)(U:b.roundOf=none)(K:Bq P b.fn L n s v)(h:J.ok Q (G (c.finish v) cs) s):JL J Q b n L [] (.code .ret::k) (c::cs) s:=λT Y=>by
 obtain⟨fn,Z,K⟩:=K
 refine Judge.Cr (g':=G (Di b T [] (.code .ret::k)) (c::cs)) rfl (λw=>by simp[G,stepG,stepG.exec,fr,Di,U]) ?_
 exact Judge.leave O Z (K T Y) h
theorem JL.fin{s:St}{c:Frame}{v:Value}(O:b.kind=.normal)(U:b.roundOf=none)(K:Bq P b.fn L n s v)(h:J.ok Q (G (c.finish v) cs) s):JL J Q b n L [] [] (c::cs) s:=λT Y=>by
 obtain⟨fn,Z,K⟩:=K
 refine Judge.Cr (g':=G (Di b T [] []) (c::cs)) rfl (λw=>by simp[G,stepG,stepG.exec,fr,Di,U]) ?_
 exact Judge.leave O Z (K T Y) h
theorem Bq.one{f:FuncId}{s:St}{t:Tmp}{v:Value}(K:P.funcs[f]?=some fn)(O:fn.results=#[.tmp t])(h:look L t=some v):Bq P f L n s v:=
 ⟨fn,K,λT U=>by
  have e:results fn T=Sem.pure v:=by
   have:=U.at_ t v h
   simp only[results,O,my]
   show Sem.pure (T.getD t undef)=_
   rw[this]
  rw[e];exact⟨rfl,rfl⟩⟩
theorem Bq.none{f:FuncId}{s:St}(K:P.funcs[f]?=some fn)(O:fn.results=#[]):Bq P f L n s (.tuple #[]):=
 ⟨fn,K,λT U=>by
  have e:results fn T=Sem.pure (.tuple #[]):=by
   simp only[results,O,my]
   rfl
  rw[e];exact⟨rfl,rfl⟩⟩
def EL:Nat->Lv_->Env
 | _,[]=>[]
 | i,v::vs=>(i,v)::EL (i+1) vs
theorem H4{i t:Nat}{v:Value}(h:look (EL i vs) t=some v):i<=t/\vs[t - i]?=some v:=by
 induction vs generalizing i with
 | nil=>simp[EL,look] at h
 | cons u vs K=>
  simp only[EL,look] at h;split at h;rename_i e;subst e;cases h;simp
  .rename_i U;let⟨Y,O⟩:=K h;refine⟨by omega,?_⟩;have:t - i=(t - (i+1))+1:=by omega
   rw[this];simpa using O
end
def A5(P:Program)(t:TypeId):Option Nat:=(P.info? t).map (·.size)
def C8(P:Program)(t:TypeId):Option Bool:=match P.underlying t with | some (.struct _)=>some true | some (.array _ _)=>some true | some _=>some false | none=>none
def zeroOf(P:Program)(t:TypeId):Option Value:=(P.info? t).bind (·.zero)
theorem DO{id:Nat}{Q:Nat->St->Prop}(h:A5 P t=some id)(k:Q id s):lp P (Go.sizeOf t) s Q X:=by
 unfold A5 at h;simp only[Go.sizeOf,typeInfo,bind,Sem.bind,program,lp];cases hi:P.info? t with
 | none=>rw[hi] at h;cases h
 | some i=>rw[hi] at h;simp at h;subst h;exact k
theorem Fh{z:Value}{Q:Value->St->Prop}(h:zeroOf P t=some z)(k:Q z s):lp P (zeroValue t) s Q X:=by
 unfold zeroOf at h;simp only[zeroValue,typeInfo,bind,Sem.bind,program,lp];cases hi:P.info? t with
 | none=>rw[hi] at h;cases h
 | some i=>
  rw[hi] at h;simp at h;show lp P (match i.zero with | some v=>pure v | none=>unsupported _) s Q X
  rw[h];exact k
theorem Mk{c:Bool}{Q:Bool->St->Prop}(h:C8 P t=some c)(k:Q c s):lp P (isAgg t) s Q X:=by
 unfold C8 at h;simp only[isAgg,underlying,bind,Sem.bind,program,lp];cases hu:P.underlying t with
 | none=>rw[hu] at h;cases h
 | some u=>
  rw[hu] at h;cases u<;>simp at h<;>subst h<;>exact k
theorem B6{u:TypeDesc}{Q:TypeDesc->St->Prop}(h:P.underlying t=some u)(k:Q u s):lp P (underlying t) s Q X:=by
 simp only[underlying,bind,Sem.bind,program,lp,h];exact k
theorem QT{a:Addr}{v:Value}{Q:Value->St->Prop}(h:s.cell? a=some v)(k:Q v s):lp P (load a) s Q X:=⟨V,v,h,k⟩
theorem Po{a:Addr}{Q:Av_->St->Prop}{X:Halt->St->Prop}:∀(vs:Lv_) (i:Nat) (acc:Av_),(∀j v,vs[j]?=some v->s.cell? (a.add (i+j))=some v)->Q (acc++vs.toArray) s->lp P (loadCellsFrom a i vs.length acc) s Q X
 | [],i,acc,_,k=>by simpa [loadCellsFrom,lp,pure] using k
 | v::vs,i,acc,h,k=>by
  simp only[lC,loadCellsFrom]
  refine Av _ _ (QT (h 0 v V) ?_)
  refine Po vs (i+1) (acc.push v) (λj u K=>?_) (by simpa using k)
  have:=h (j+1) u (by simpa using K)
  rwa[show i+1+j=i+(j+1) from by omega]
theorem Ps{a:Addr}{m:Nat}{Q:Av_->St->Prop}(hm:m=vs.length)(h:∀j v,vs[j]?=some v->s.cell? (a.add j)=some v)(k:Q vs.toArray s):lp P (loadCells a m) s Q X:=by
 subst hm;exact Po vs 0 #[] (λj v K=>by simpa using h j v K) (by simpa using k)
theorem PG{a:Addr}{v:Value}{Q:Value->St->Prop}(K:C8 P t=some false)(h:s.cell? a=some v)(k:Q v s):lp P (loadVar t a) s Q X:=by
 unfold loadVar;refine Av _ _ (Mk K ?_);exact QT h k
theorem PE{a:Addr}{Q:Value->St->Prop}(K:C8 P t=some true)(O:A5 P t=some vs.length)(h:∀j v,vs[j]?=some v->s.cell? (a.add j)=some v)(k:Q (.agg vs.toArray) s):lp P (loadVar t a) s Q X:=by
 unfold loadVar;refine Av _ _ (Mk K ?_);show lp P (do let r ← loadCells a (← Go.sizeOf t);pure (Value.agg r)) s Q X
 refine Av (x:=Go.sizeOf t) _ (DO O ?_);refine Av _ _ (Ps V h ?_);exact k
variable {e:TypeId}
section
variable {x:Operand}{v:Value}{m:Int}
theorem EJ{o:Oper}{sm:Sem Value}(K:execOp ρ o=(do pure (Next.value (← sm))))(h:lp P sm s (λr s'=>r=v/\s'=s) (λ_ _=>False)):Yl P o ρ s v:=by
 unfold Yl;rw[K];exact Av _ _ (CH _ h (λr s' ⟨O,U⟩=>⟨by rw[O],U⟩) (λ_ _ h=>h))
theorem Yl.load{a:Addr}(K:C8 P t=some false)(O:ρ x=.pointer (some a))(h:s.cell? a=some v):Yl P ⟨d,.load t x,ty,p,af,g⟩ ρ s v:=
 EJ (sm:=Instr.loadAt t (ρ x)) V (by rw[O];exact PG K h ⟨rfl,rfl⟩)
theorem HC{a:Addr}(K:C8 P t=some true)(O:A5 P t=some vs.length)(U:ρ x=.pointer (some a))(h:∀j v,vs[j]?=some v->s.cell? (a.add j)=some v):Yl P ⟨d,.load t x,ty,p,af,g⟩ ρ s (.agg vs.toArray):=
 EJ (sm:=Instr.loadAt t (ρ x)) V (by rw[U];exact PE K O h ⟨rfl,rfl⟩)
theorem Yl.fieldAddr{a:Addr}{O:Array Field}{i:Nat}{K:Field}{id:Nat}(Y:P.underlying t=some (.struct O))(hi:O[i]?=some K)(Z:A5 P K.type=some (id+1))(aa:ρ x=.pointer (some a)):
  Yl P ⟨d,.fieldAddr t x i,ty,p,af,g⟩ ρ s (.pointer (some (a.add K.offset))):=
 EJ (sm:=Instr.fieldAt t (ρ x) i) V (by
  rw[aa];unfold Instr.fieldAt
  refine Av _ _ (B6 Y ?_)
  simp only[hi,Instr.sureAddr,bind,Sem.bind,pure]
  refine Av (x:=fieldPlace a K) _ ?_
  unfold fieldPlace
  refine Av _ _ (DO Z ?_)
  simp only[Nat.add_eq_zero_iff,Nat.succ_ne_self,and_false,lK,lp,pure]
  exact⟨trivial,trivial⟩)
theorem Mh{a:Addr}{c id:Nat}(O:P.underlying t=some (.slice e))(U:A5 P e=some id)(Y:ρ x=.slice (some a) l c)(Z:ρ y=.int kd m)(h:0<=m/\m<l):
  Yl P ⟨d,.indexAddr t x y,ty,p,af,g⟩ ρ s (.pointer (some (a.add (m.toNat*id)))):=
 EJ (sm:=Instr.indexAt t (ρ x) (ρ y)) V (by
  rw[Y,Z];unfold Instr.indexAt
  simp only[asIntOf,bind,Sem.bind,pure]
  refine Av (x:=underlying t) _ (B6 O ?_)
  simp only[Sem.bind]
  refine Av (x:=underlying t) _ (B6 O ?_)
  simp only[Sem.bind,h,and_self,lQ]
  refine Av (x:=Go.sizeOf e) _ (DO U ?_)
  exact⟨rfl,rfl⟩)
theorem Qh{a:Addr}{id:Nat}(O:P.underlying t=some (.array l e))(U:A5 P e=some id)(Y:ρ x=.pointer (some a))(Z:ρ y=.int kd m)(h:0<=m/\m<l):
  Yl P ⟨d,.indexAddr t x y,ty,p,af,g⟩ ρ s (.pointer (some (a.add (m.toNat*id)))):=
 EJ (sm:=Instr.indexAt t (ρ x) (ρ y)) V (by
  rw[Y,Z];unfold Instr.indexAt
  simp only[asIntOf,bind,Sem.bind,pure]
  refine Av (x:=underlying t) _ (B6 O ?_)
  simp only[Sem.bind,Instr.sureAddr,pure]
  refine Av (x:=underlying t) _ (B6 O ?_)
  simp only[Sem.bind,h,and_self,lQ]
  refine Av (x:=Go.sizeOf e) _ (DO U ?_)
  exact⟨rfl,rfl⟩)
end
variable {ops:Ao_}{rest:List Nat}
variable{pl:Nat}
section
variable {b:Frame}{n:Nat}
variable {i:Nat}{x:Operand}{v:Value}
theorem HA{cells:Av_}{Q:Addr->St->Prop}(K:Nd E H B)(k:∀r,Nd E H (B++ [(r,.cells cells e (0,0))])->Q ⟨r,0,none⟩ (mk E H (B++ [(r,.cells cells e (0,0))]))):lp P (newRow e cells) (mk E H B) Q X:=by
 simp only[newRow,newObj,bind,Sem.bind,lp,pure];refine⟨V,λr O U=>?_⟩;let⟨Y,Z⟩:=I6 O U (.cells cells e (0,0)) K;rw[Z];exact k r Y
theorem JL.alloc{z:Value}(K:ops[i]?=some ⟨d,.alloc e,ty,p,af,g⟩)(hw:AQ L ops ⟨d,.alloc e,ty,p,af,g⟩=some true)(O:BH b n ⟨d,.alloc e,ty,p,af,g⟩=true)(U:Nd E H B)(Y:zeroOf P e=some z)
  (h:∀r,Nd E H (B++ [(r,.cells z.cells e (0,0))])->JL J Q b n (Az L d (.pointer (some ⟨r,0,none⟩))) ds (.inRegion ops rest::k) cs (mk E H (B++ [(r,.cells z.cells e (0,0))]))):
  JL J Q b n L ds (.inRegion ops (i::rest)::k) cs (mk E H B):=
 JL.op K hw O λρ _=>by
  show lp P (do pure (Next.value (← Instr.alloc e true (.tuple #[])))) _ _ _
  refine Av _ _ ?_
  unfold Instr.alloc
  refine Av _ _ (Fh Y ?_)
  refine Av _ _ (HA U λr Z=>?_)
  exact h r Z
theorem JL.box(K:ops[i]?=some ⟨d,.box e x,ty,p,af,g⟩)(hw:AQ L ops ⟨d,.box e x,ty,p,af,g⟩=some true)(O:BH b n ⟨d,.box e x,ty,p,af,g⟩=true)(U:Nd E H B)(Y:ev L x=some v)
  (h:∀r,Nd E H (B++ [(r,.cells v.cells e (0,0))])->JL J Q b n (Az L d (.pointer (some ⟨r,0,none⟩))) ds (.inRegion ops rest::k) cs (mk E H (B++ [(r,.cells v.cells e (0,0))]))):
  JL J Q b n L ds (.inRegion ops (i::rest)::k) cs (mk E H B):=
 JL.op K hw O λρ Z=>by
  show lp P (do pure (Next.value (← Instr.box e (ρ x)))) _ _ _
  rw[Z x v Y]
  refine Av _ _ ?_
  unfold Instr.box
  refine Av _ _ (HA U λr aa=>?_)
  exact h r aa
def Bx(c:Av_)(off:Nat):Lv_->Av_
 | []=>c
 | v::vs=>Bx (c.setIfInBounds off v) (off+1) vs
theorem L9(c:Av_)(off:Nat)(vs:Lv_):(Bx c off vs).size=c.size:=by
 induction vs generalizing c off with
 | nil=>rfl
 | cons v vs K=>simp[Bx,K]
theorem NL{bk:Nat}{Q:Unit->St->Prop}{X:Halt->St->Prop}{pl off:Nat}{sp:Option Nat}:∀(vs:Lv_) (j:Nat) (c:Av_) (B:List (Nat×Obj)),(∀v∈vs,BX v=true)->Nd E H B->B[pl]?=some (bk,.cells c e (0,0))->off+j+vs.length<=c.size->(sp=none∨0<j)->
  (∀B',B'=B.set pl (bk,.cells (Bx c (off+j) vs) e (0,0))->Nd E H B'->Q () (mk E H B'))->lp P (storeCells ⟨bk,off,sp⟩ vs j) (mk E H B) Q X
 | [],j,c,B,_,O,K,_,_,k=>by
  simp only[storeCells,lp,pure]
  refine k B ?_ O
  simp only[Bx]
  exact(lF λi=>by
   by_cases hi:pl=i
   .subst hi
    let⟨Z,aa⟩:=d0.1 K
    simp[Z,aa]
   .simp [hi])
 | v::vs,j,c,B,U,O,K,hle,Y,k=>by
  simp only[storeCells,lC] at*
  have ab:off+j<c.size:=by omega
  have ae:(Addr.add ⟨bk,off,sp⟩ j)=⟨bk,off+j,none⟩:=by
   unfold Addr.add;split
   .rename_i ag;subst ag;rcases Y with rfl | Y
    .rfl
    .omega
   .rfl
  have ah:(cellAt (.cells c e (0,0)) ⟨bk,off+j,none⟩).isSome=true:=by simp[cellAt,ab]
  refine Av (x:=store (Addr.add ⟨bk,off,sp⟩ j) v) _ ?_;rw[ae];refine⟨V,U v (by simp),_,H9 O K,ah,by simp[frozenAt],?_⟩;simp only[lp];have ai:Jp (.cells c e (0,0)) ⟨bk,off+j,none⟩ v=.cells (c.setIfInBounds (off+j) v) e (0,0):=by simp[Jp]
  rw[ai,WT O K];have aj:(B.set pl (bk,.cells (c.setIfInBounds (off+j) v) e (0,0)))[pl]?=some (bk,.cells (c.setIfInBounds (off+j) v) e (0,0)):=by
   have:pl<B.length:=(d0.1 K).1;simp[this]
  refine NL vs (j+1) _ _ (λu hu=>U u (lc _ hu)) (O.set K) aj (by simp;omega) (.inr (by omega)) λak e2 al=>k ak ?_ al;rw[e2,ns];simp only[Bx]
  rfl
theorem NO{c:Av_}{Q:Unit->St->Prop}(K:A5 P t=some v.cells.size)(O:∀u∈v.cells.toList,BX u=true)(U:Nd E H B)(Y:B[pl]?=some (bk,.cells c e (0,0)))(hle:off+v.cells.size<=c.size)
  (k:Nd E H (B.set pl (bk,.cells (Bx c off v.cells.toList) e (0,0)))->Q () (mk E H (B.set pl (bk,.cells (Bx c off v.cells.toList) e (0,0))))):lp P (storeVar t ⟨bk,off,none⟩ v) (mk E H B) Q X:=by
 unfold storeVar;refine Av _ _ (DO K ?_);simp only[ne_eq,not_true_eq_false,lK];refine NL v.cells.toList 0 c B O U Y (by simpa using hle) (.inl V) λB' e Z=>?_;subst e;exact k Z
theorem JL.store{c:Av_}(pl:Nat)(O:ops[i]?=some ⟨d,.store t x y,ty,p,af,g⟩)(hw:AQ L ops ⟨d,.store t x y,ty,p,af,g⟩=some true)(U:BH b n ⟨d,.store t x y,ty,p,af,g⟩=true)(Y:Nd E H B)
  (Z:ev L x=some (.pointer (some ⟨bk,off,none⟩))) (aa:ev L y=some v) (ab:A5 P t=some v.cells.size) (ae:∀u∈v.cells.toList,BX u=true) (ag:B[pl]?=some (bk,.cells c e (0,0))) (hle:off+v.cells.size<=c.size)
  (h:Nd E H (B.set pl (bk,.cells (Bx c off v.cells.toList) e (0,0)))->JL J Q b n (Az L d undef) ds (.inRegion ops rest::k) cs (mk E H (B.set pl (bk,.cells (Bx c off v.cells.toList) e (0,0))))):
  JL J Q b n L ds (.inRegion ops (i::rest)::k) cs (mk E H B):=
 JL.op O hw U λρ K=>by
  show lp P (do Instr.storeAt t (ρ x) (ρ y);pure Next.skip) _ _ _
  rw[K x _ Z,K y _ aa]
  refine Av _ _ ?_
  unfold Instr.storeAt
  simp only[Instr.sureAddr,bind,Sem.bind,pure]
  exact NO ab ae Y ag hle λah=>h ah
end
def Ew(P:Program)(t:TypeId):Option Nat:=(P.info? t).map (·.bytes)
variable{cx hi lo mx:Nat}{Y:Option Value}{xs ys:Lv_}{ax:Option Addr}
section
variable {b:Frame}{n:Nat}
variable {i:Nat}{x:Operand}{v:Value}
theorem GC{inf:TypeInfo}{Q:TypeInfo->St->Prop}(h:P.info? t=some inf)(k:Q inf s):lp P (typeInfo t) s Q X:=by
 simp only[typeInfo,bind,Sem.bind,program,lp,h];exact k
theorem KT{id:Nat}(h:Ew P t=some id):∃inf,P.info? t=some inf/\inf.bytes=id:=by
 unfold Ew at h;cases hi:P.info? t with
 | none=>rw[hi] at h;cases h
 | some i=>rw[hi] at h;simp at h;exact⟨i,rfl,h⟩
theorem Ia{z y:Nat}{code:BoundsCode}{f:Nat->Sem β}{Q':β->St->Prop}(U:z<=y)(K:lp P (f z) s Q' X):lp P (Instr.sliceBound (.int .i64 z) y code>>=f) s Q' X:=by
 refine Av _ _ ?_;unfold Instr.sliceBound;have O:(0:Int)<=(z:Int)/\(z:Int)<=(y:Int):=⟨by omega,by omega⟩;simp only[asIntOf,bind,Sem.bind,pure];rw[d5 O];simpa [lp] using K
theorem GB(a:α)(f:α->Sem β):((pure a:Sem α)>>=f)=f a:=rfl
theorem Yf{c:Nat}:lp P (Instr.sliceBounds true l c none none none) s (λr s'=>r=(0,l,c)/\s'=s) X:=by
 unfold Instr.sliceBounds;exact⟨V,V⟩
theorem YB{c:Nat}(K:lo<=l):lp P (Instr.sliceBounds true l c (some (.int .i64 lo)) none none) s (λr s'=>r=(lo,l,c)/\s'=s) X:=by
 simp only[Instr.sliceBounds,lQ,mT,nc,ld,lK,GB];exact Ia K ⟨V,V⟩
theorem Yx{c:Nat}(hh:hi<=c):lp P (Instr.sliceBounds true l c none (some (.int .i64 hi)) none) s (λr s'=>r=(0,hi,c)/\s'=s) X:=by
 simp only[Instr.sliceBounds,lQ,mT,nc,ld,lK,GB];exact Ia hh ⟨V,V⟩
theorem YU{c:Nat}(hh:hi<=c)(K:lo<=hi):lp P (Instr.sliceBounds true l c (some (.int .i64 lo)) (some (.int .i64 hi)) none) s (λr s'=>r=(lo,hi,c)/\s'=s) X:=by
 have e:Instr.sliceBounds true l c (some (.int .i64 lo)) (some (.int .i64 hi)) none=(Instr.sliceBound (.int .i64 hi) c .sliceAcap>>=λh=>Instr.sliceBound (.int .i64 lo) h .sliceB>>=λl=>pure (l,h,c)):=by
  simp[Instr.sliceBounds]
 rw[e];exact Ia hh (Ia K ⟨V,V⟩)
theorem Yr{c:Nat}(hm:mx<=c)(hh:hi<=mx):lp P (Instr.sliceBounds true l c none (some (.int .i64 hi)) (some (.int .i64 mx))) s (λr s'=>r=(0,hi,mx)/\s'=s) X:=by
 simp only[Instr.sliceBounds,lQ,mT,nc,ld,lK,GB];exact Ia hm (Ia hh ⟨V,V⟩)
theorem Yo{c:Nat}(hm:mx<=c)(hh:hi<=mx)(K:lo<=hi):lp P (Instr.sliceBounds true l c (some (.int .i64 lo)) (some (.int .i64 hi)) (some (.int .i64 mx))) s (λr s'=>r=(lo,hi,mx)/\s'=s) X:=by
 simp only[Instr.sliceBounds,lQ,mT,nc,ld,lK,GB];exact Ia hm (Ia hh (Ia K ⟨V,V⟩))
theorem Tr{c:Nat}{Z aa:Option Value}
  (O:match aa with | some w=>w=.int .i64 mx | none=>mx=c) (K:match Z with | some w=>w=.int .i64 hi | none=>hi=l/\aa=none) (U:match Y with | some w=>w=.int .i64 lo | none=>lo=0) (hm:mx<=c) (hh:hi<=mx) (ab:lo<=hi):
  lp P (Instr.sliceBounds true l c Y Z aa) s (λr s'=>r=(lo,hi,mx)/\s'=s) X:=by
 cases aa with
 | none=>
  cases Z with
  | none=>
   cases Y with
   | none=>obtain rfl:mx=c:=O;obtain rfl:hi=l:=K.1;obtain rfl:lo=0:=U;exact Yf
   | some w=>obtain rfl:mx=c:=O;obtain rfl:hi=l:=K.1;obtain rfl:w=.int .i64 lo:=U;exact YB ab
  | some w=>
   cases Y with
   | none=>obtain rfl:mx=c:=O;obtain rfl:w=.int .i64 hi:=K;obtain rfl:lo=0:=U;exact Yx hh
   | some w'=>obtain rfl:mx=c:=O;obtain rfl:w=.int .i64 hi:=K;obtain rfl:w'=.int .i64 lo:=U;exact YU hh ab
 | some w0=>
  cases Z with
  | none=>exact absurd K.2 (λh=>by cases h)
  | some w=>
   cases Y with
   | none=>obtain rfl:w0=.int .i64 mx:=O;obtain rfl:w=.int .i64 hi:=K;obtain rfl:lo=0:=U;exact Yr hm hh
   | some w'=>obtain rfl:w0=.int .i64 mx:=O;obtain rfl:w=.int .i64 hi:=K;obtain rfl:w'=.int .i64 lo:=U;exact Yo hm hh ab
theorem UU{a:Option Addr}{c id:Nat}{U K:Option Value}{Q:Value->St->Prop}(Z:P.underlying t=some (.slice e))(aa:A5 P e=some id)
  (ab:match K with | some w=>w=.int .i64 mx | none=>mx=c) (ae:match Y with | some w=>w=.int .i64 hi | none=>hi=l/\K=none) (ag:match U with | some w=>w=.int .i64 lo | none=>lo=0) (hm:mx<=c) (hh:hi<=mx) (ah:lo<=hi)
  (k:Q (.slice (if mx=lo then a else a.map (·.add (lo*id))) (hi - lo) (mx - lo)) s):lp P (Instr.slice t (.slice a l c) U Y K) s Q X:=by
 unfold Instr.slice;refine Av _ _ (B6 Z ?_);have hb:=Tr (P:=P) (s:=s) (X:=X) ab ae ag hm hh ah;refine Av _ _ (CH _ hb ?_ (λ_ _ h=>h));rintro r s' ⟨rfl,rfl⟩;exact Av _ _ (DO aa k)
theorem Yl.slice{ρ:Operand->Value}{a:Option Addr}{c id:Nat}{olo ohi omx:Option Operand}(U:P.underlying t=some (.slice e))(Y:A5 P e=some id)(Z:ρ x=.slice a l c)
  (aa:match omx with | some w=>ρ w=.int .i64 mx | none=>mx=c) (K:match ohi with | some w=>ρ w=.int .i64 hi | none=>hi=l/\omx=none) (ab:match olo with | some w=>ρ w=.int .i64 lo | none=>lo=0) (hm:mx<=c) (hh:hi<=mx) (ae:lo<=hi):
  Yl P ⟨d,.slice t x olo ohi omx,ty,p,af,g⟩ ρ s (.slice (if mx=lo then a else a.map (·.add (lo*id))) (hi - lo) (mx - lo)):=
 EJ (sm:=Instr.sliceAt t (ρ x) (olo.map ρ) (ohi.map ρ) (omx.map ρ)) V (by
  rw[Z];unfold Instr.sliceAt
  refine Av _ _ (B6 U ?_)
  refine UU U Y (mx:=mx) (hi:=hi) (lo:=lo) ?_ ?_ ?_ hm hh ae ⟨rfl,rfl⟩;cases omx<;>exact aa
  .cases ohi with
   | none=>exact⟨K.1,by rw[K.2];rfl⟩
   | some w=>exact K
  .cases olo<;>exact ab)
def GR(s:St)(v:Value)(K:Nat)(xs:Lv_):Prop:=
 match v with
 | .slice (some a) l c=>(a.spot=none∨l=0)/\xs.length=l*K/\l<=c/\∀j w,xs[j]?=some w->s.cell? ⟨a.block,a.off+j,none⟩=some w
 | .slice none l _=>l=0/\xs=[]
 | _=>False
theorem CV{a:Addr}(h:a.spot=none)(j:Nat):a.add j=⟨a.block,a.off+j,none⟩:=by
 unfold Addr.add;obtain⟨b,o,sp⟩:=a;simp only at h;subst h;split;rename_i e;subst e;rfl;rfl
theorem JV{id:Nat}{Q:Av_->St->Prop}(Z:∃a c,v=.slice a l c)(h:GR s v id xs)(k:Q xs.toArray s):lp P (Builtin.firstCells id l v) s Q X:=by
 obtain⟨a,c,rfl⟩:=Z;cases a with
 | none=>
  obtain⟨K,rfl⟩:=h;exact k
 | some a=>
  obtain⟨K,O,ab,aa⟩:=h;refine Ps O.symm (λj w U=>?_) k;rcases K with K | K;rw[CV K];exact aa j w U;rw[K,mC] at O;rw[lD O] at U;cases U
theorem Tw(nl:Nat):∀(r c:Nat),Builtin.growBy nl r c<=max c (2*nl+768):=by
 intro r
 induction r with
 | zero=>intro c;simp[Builtin.growBy];omega
 | succ r K=>
  intro c;simp only[Builtin.growBy];split;omega;rename_i h;have:=K (c+(c+768)/4);omega
theorem NY{need old:Nat}(h:old<need):Builtin.nextslicecap need old<=2*need+768:=by
 unfold Builtin.nextslicecap;split;omega;split;omega;have:=Tw need 4 old;omega
theorem NJ(z:Av_)(m:Nat):(Builtin.zeroCells z m).size=m*z.size:=by simp[Builtin.zeroCells]
def Ng(B:List (Nat×Obj))(pl:Nat)(e:TypeId)(K:Nat)(a:Option Addr)(l c:Nat)(xs:Lv_):Prop:=
 (a=none/\l=0/\c=0/\xs=[])∨∃bk f,a=some ⟨bk,0,none⟩/\B[pl]?=some (bk,.cells f e (0,0))/\f.size=c*K/\l<=c/\xs=f.toList.take (l*K)
theorem Py(c:Av_)(off:Nat)(vs:Lv_)(h:off+vs.length<=c.size):(Bx c off vs).toList.take (off+vs.length)=c.toList.take off++vs:=by
 induction vs generalizing c off with
 | nil=>simp[Bx]
 | cons v vs O=>
  simp only[Bx,lC] at*;have:=O (c.setIfInBounds off v) (off+1) (by simp;omega);rw[show off+(vs.length+1)=off+1+vs.length from by omega,this];have K:off<c.toList.length:=by simp;omega
  rw[Array.toList_setIfInBounds,lS];have U:(c.toList.set off v)[off]?=some v:=by simp at K;simp[K]
  rw[U];simp[List.take_set_of_le]
theorem N9{a:Option Addr}{c id Y m:Nat}{z:Value}{Q:Value->St->Prop}
  (aw:ats[0]?=some t) {t1 ay:TypeId}(az:ats[1]?=some t1) (aA:P.underlying t1=some (.slice ay)) (aB:P.underlying t=some (.slice e)) (aC:A5 P e=some id) (hb:Ew P e=some Y) (aD:zeroOf P e=some z) (aE:z.cells.size=id)
  (ai:Nd E H B) (aj:Ng B pl e id a l c xs)
  (ag:GR (mk E H B) (.slice ax m cx) id ys) (aF:∀w∈ys,BX w=true) (aQ:0<Y) (aR:l+m<=2^40) (aG:Y<=127)
  (aH:∀bk f O,a=some ⟨bk,0,none⟩->B[pl]?=some (bk,.cells f e (0,0))->O=Bx f (l*id) ys->l+m<=c->O.size=c*id->O.toList.take ((l+m)*id)=xs++ys->Nd E H (B.set pl (bk,.cells O e (0,0)))->Q (.slice a (l+m) c) (mk E H (B.set pl (bk,.cells O e (0,0)))))
  (aI:a=none->m=0->Q (.slice none 0 0) (mk E H B))
  (aJ:∀r O Z,l+m<=Z->O.size=Z*id->O.toList.take ((l+m)*id)=xs++ys->Nd E H (B++ [(r,.cells O e (0,0))])->Q (.slice (some ⟨r,0,none⟩) (l+m) Z) (mk E H (B++ [(r,.cells O e (0,0))]))):
  lp P (Builtin.append_ ats ty #[.slice a l c,.slice ax m cx]) (mk E H B) Q X:=by
 unfold Builtin.append_;simp only[aw,az,lA,l4,nh];refine Av _ _ (B6 aB ?_);refine Av _ _ (DO aC ?_);refine Av _ _ (B6 aA ?_);simp only[GB,ld,lK,Builtin.lenOf,nB,lQ];have aa:ys.length=m*id:=by
  cases ax with
  | none=>obtain⟨ak,al⟩:=ag;subst ak al;simp
  | some ad=>exact ag.2.1
 have am:∃(aK:Option Addr) (Z:Nat),GR (mk E H B) (.slice a l c) id xs/\aK=a/\Z=c:=by
  refine⟨a,c,?_,V,V⟩;rcases aj with⟨rfl,rfl,rfl,rfl⟩ | ⟨bk,f,rfl,ab,U,ae,rfl⟩;exact⟨V,V⟩
  .have hle:l*id<=f.size:=by rw[U];exact lz _ ae
   refine⟨.inl V,by simp[m7 hle],ae,λj w ah=>?_⟩;refine QL ai ab ?_;simp only[mD];rw[l5] at ah;split at ah;simpa using ah;cases ah
 obtain⟨_,_,am,_,_⟩:=am;have an:xs.length=l*id:=by
  rcases aj with⟨rfl,rfl,rfl,rfl⟩ | ⟨bk,f,rfl,ab,U,ae,rfl⟩;simp
  .have hle:l*id<=f.size:=by rw[U];exact lz _ ae
   simp[m7 hle]
 split
 .rename_i au;refine Av _ _ (JV ⟨ax,cx,V⟩ ag ?_);rcases aj with⟨rfl,rfl,rfl,rfl⟩ | ⟨bk,f,rfl,ab,U,ae,rfl⟩
  .obtain rfl:m=0:=by omega
   simp only;exact aI V V
  .simp only;have hle:l*id+ys.length<=f.size:=by rw[aa,U,← ml];exact lz _ au
   have aL:(Addr.add ⟨bk,0,none⟩ (l*id))=⟨bk,l*id,none⟩:=by rw[CV rfl];simp
   rw[aL];refine Av _ _ (NL (pl:=pl) ys.toArray.toList 0 f B (by simpa using aF) ai ab (by simpa using hle) (.inl V) λB' av ao=>?_);simp only[lT] at av;subst av;refine aH bk f _ V ab V au (by rw[L9,U]) ?_ ao;have:=Py f (l*id) ys hle;rw[aa,← ml] at this;exact this
 .rename_i aS;have ak:¬(((l+m:Nat):Int)>IntKind.i64.max/\(False∨Y=0)):=by rintro⟨_,h | h⟩<;>omega
  have al:¬(Builtin.nextslicecap (l+m) c*Y>2^48):=by
   have:=NY (need:=l+m) (old:=c) (by omega);have aT:Builtin.nextslicecap (l+m) c*Y<=(2*(l+m)+768)*127:=n8 this aG;omega
  let⟨inf,ap,aq⟩:=KT hb;refine Av _ _ (GC ap ?_);rw[aq,d7 ak];refine Av _ _ (GC ap ?_);rw[aq,d7 al];refine Av _ _ ?_;simp only[choose,lp,Question.forced,ld,lK];refine⟨V,λaM=>?_⟩;generalize aN:(Question.appendCap (l+m) c e).cut aM=ar;have aO:l+m<=ar:=by rw[← aN];simp[Question.cut]
  refine Av _ _ (GC ap ?_);rw[aq];have aP:∀{α:Type}{f:Unit->Sem α}{Q:α->St->Prop},lp P (f ()) (mk E H B) Q X->lp P (askRoom (ar*Y)>>=f) (mk E H B) Q X:=by
   intro α f Q U;refine Av _ _ ?_;unfold askRoom;split;exact⟨.inl ⟨V,V⟩,U⟩;exact U
  refine aP (Av _ _ (JV ⟨a,c,V⟩ am ?_));refine Av _ _ (JV ⟨ax,cx,V⟩ ag ?_);refine Av _ _ (Fh aD ?_);refine Av _ _ (HA ai λr ao=>?_);refine aJ r _ ar aO ?_ ?_ ao;simp only[nN,mE,NJ,aE,an,aa];rw[← ml,← ml];congr 1;omega;simp only[Array.toList_append];rw[ny (by simp[an,aa,ml])];rw[me (by simp[an,aa,ml])]
end
theorem Ni{P:Program}(x:Sem α):∀{s:St}{Q:α->St->Prop}{X:Halt->St->Prop},lp P x s Q X->lp P x s (λa s'=>Q a s'/\s'.E=s.E/\s'.q=s.q) X:=by
 induction x with
 | pure a=>intro s Q X h;exact⟨h,rfl,rfl⟩
 | load m a k K=>intro s Q X h;obtain⟨O,v,U,Y⟩:=h;exact⟨O,v,U,K _ Y⟩
 | store m a v k K=>intro s Q X h;obtain⟨O,U,o,Y,aa,ab,ae⟩:=h;exact⟨O,U,o,Y,aa,ab,K ae⟩
 | new o k K=>intro s Q X h;exact⟨h.1,λr O U=>K _ (h.2 r O U)⟩
 | shape r k K=>intro s Q X h;obtain⟨o,O,U⟩:=h;exact⟨o,O,K _ U⟩
 | freeze a n k K=>intro s Q X h;exact h
 | frozen a k K=>intro s Q X h;obtain⟨o,O,U⟩:=h;exact⟨o,O,K _ U⟩
 | getObj r k K=>intro s Q X h;obtain⟨o,O,U,Y⟩:=h;exact⟨o,O,U,K _ Y⟩
 | setObj r o k K=>intro s Q X h;obtain⟨O,U,Y⟩:=h;exact⟨O,U,K Y⟩
 | choose q k K=>
  intro s Q X h;simp only[lp] at h ⊢;split;rename_i Z;rw[d5 Z] at h;exact K _ h;rename_i Z;rw[d7 Z] at h;exact⟨h.1,λt=>K _ (h.2 t)⟩
 | sys c k K=>intro s Q X h;exact h
 | program k K=>intro s Q X h;exact K _ h
 | mark m k K=>intro s Q X h;exact⟨h.1,K h.2⟩
 | halt h=>intro s Q X h;exact h
def A2(D:Nat->Bool)(s:St):St:=⟨λb=>if D b then s.get b else s.E b,λb=>if D b then none else s.H b,s.q⟩
def BV(D:Nat->Bool)(s s':St):St:=⟨λb=>if D b then s.E b else s'.E b,λb=>if D b then s.H b else s'.H b,s'.q⟩
theorem JZ(D:Nat->Bool)(s:St):BV D s (A2 D s)=s:=by
 obtain⟨E,H,q⟩:=s;unfold BV A2;congr 1;funext b;by_cases h:D b<;>simp[h];funext b;by_cases h:D b<;>simp[h]
theorem Uh{D:Nat->Bool}{s:St}(f:Fits s w):Fits (A2 D s) w where
 e b o h:=by
  by_cases hd:D b;simp[A2,hd] at h;exact f.get h;simp[A2,hd] at h;exact f.e b o h
 h b o h:=by
  by_cases hd:D b;simp[A2,hd] at h;simp[A2,hd] at h;exact f.h b o h
 d b h:=by
  by_cases hd:D b;simp[A2,hd];simp[A2,hd] at h ⊢;exact f.d b h
def DK{P:Program}(J:Judge P)(f:FuncId)(args:Av_)(s:St)(R:Value->St->Prop):Prop:=
 ∀(Q:Gs_) (c:Frame) (cs:Lf_),(∀v s',R v s'->J.ok Q (G (c.finish v) cs) s')->J.ok Q (G (Frame.enter P f args .normal) (c::cs)) s
variable{R:Value->St->Prop}
theorem DK.Ad{P:Program}{J:Judge P}{f:FuncId}{s:St}{K:Value->St->Prop}(h:DK J f args s R)(O:∀v s',R v s'->K v s'):DK J f args s K:=
 λQ c cs U=>h Q c cs λv s' Y=>U v s' (O v s' Y)
section
variable {b:Frame}{n:Nat}
theorem Judge.Q8(D:Nat->Bool){ops:Ao_}{i:Nat}{rest:List Nat}{o:Oper}(Y:ops[i]?=some o)(hw:Region.wanted o (yielded ops T)=true)(aw:b.kind≠ .early)
  (hd:∀c,o.op≠ .defer c) (ay:s.q=false)
  (h:lp P (execOp (A7 T) o) (A2 D s) (λah s'=>upon J Q b T ds ops i rest k cs o.dst ah (BV D s s')) (λ_ _=>False)):
  J.ok Q (G (fr b T ds (.inRegion ops (i::rest)::k)) cs) s:=by
 refine J.step ⟨V,λw f=>?_,λe=>by subst e;cases ay⟩;have Z:((fr b T ds (.inRegion ops (i::rest)::k)).kind==CallKind.early)=false:=by simpa [fr] using aw
 have az:stepG P J.main (G (fr b T ds (.inRegion ops (i::rest)::k)) cs) w=stepG.apply P true (fr b T ds (.inRegion ops (i::rest)::k)) cs none (execOp (A7 T) o) w:=by
  rw[stepG_op Y hw];split;rename_i l c aG e2;exact absurd e2 (hd c);rfl
 let⟨aa,ai,aj,aA,O⟩:=Mi _ (Ni _ h) (Uh (D:=D) f);have ak:=Ov (P:=P) (fn:=b.fn) aA;have ao:=λv=>Ei (b:=b) (ds:=ds) (k:=k) T ops i rest v o Y;have key:∀w',Fits aa w'->Fr (A2 D s) w aa w'->aa.E=(A2 D s).E->Fits (BV D s aa) w'/\Fr s w (BV D s aa) w':=by
  intro w' al g2 aB;have ap:∀b,D b=true->b<w.heap.size->w'.heap[b]?=w.heap[b]? :=λb hb am=>g2.keep b am (by simp[A2,hb]);have aq:∀b o,(s.H b=some o∨s.E b=some o)->b<w.heap.size:=λb o Y=>by
   have:=Y.elim (f.h b o) (f.e b o);rcases lb b w.heap.size with an | an;exact an;simp[lk an] at this
  refine⟨⟨λb o hb=>?_,λb o hb=>?_,λb hb=>?_⟩,⟨g2.size,λb am hb=>?_,λb hb=>?_,λb o hb=>?_,λb hb=>?_,g2.tape,g2.os,g2.output⟩⟩;by_cases K:D b;simp[BV,K] at hb;rw[ap b K (aq b o (.inr hb))];exact f.e b o hb;simp[BV,K] at hb;exact al.e b o hb;by_cases K:D b;simp[BV,K] at hb;rw[ap b K (aq b o (.inl hb))];exact f.h b o hb;simp[BV,K] at hb;exact al.h b o hb;by_cases K:D b;simp[BV,K] at hb ⊢;exact f.d b hb;simp[BV,K] at hb ⊢;exact al.d b hb;exact g2.keep b am (by by_cases K:D b<;>simp[A2,K,hb]);by_cases K:D b;simp[BV,K] at hb;exact .inl hb;simp[BV,K] at hb;rcases g2.own b hb with q | q;left;simpa [A2,K] using q;exact .inr q;by_cases K:D b;simp[BV,K];exact hb;simp only[BV,K,ld,lK];rw[aB];simp[A2,K,hb];by_cases K:D b;simp[BV,K] at hb;exact .inl hb;simp[BV,K] at hb;rcases g2.DG b hb with q | q | q;left;simpa [A2,K] using q;right;left;simpa [A2,K] using q;exact .inr (.inr q)
 have aC:∀w',(∀e∈seen P b.fn ((execOp (A7 T) o).events P w #[]),Ev (A2 D s) w w' e)->∀e∈seen P b.fn ((execOp (A7 T) o).events P w #[]),Ev s w w' e:=by
  intro w' he e hm;have:=he e hm;have ar:∀{b wr},FV (A2 D s) w w' b wr->FV s w w' b wr:=by
   intro b wr au;refine⟨au.1,?_⟩;rcases au.2 with q | q | ⟨q,av⟩;left;by_cases K:D b<;>simp[A2,K] at q;exact q;exact .inr (.inl q);by_cases K:D b;simp[A2,K,St.get] at q;by_cases ag:s.E b=none;left;intro aD;rw[ag,aD] at q;exact q V;exact .inr (.inr ⟨ag,av⟩);simp[A2,K] at q;exact .inr (.inr ⟨q,av⟩)
  unfold Ev at this ⊢;split<;>rename_i aE<;>simp only[aE] at this;exact⟨this.1,ar this.2⟩;exact⟨this.1,ar this.2⟩;trivial;trivial
 rw[az];cases U:(execOp (A7 T) o).run P w with
 | ok ah w'=>
  rw[U] at ai aj O ak;simp only[Jx] at ai aj ak;obtain⟨O,ag,_⟩:=O;let⟨k1,ab⟩:=key w' ai aj ag;have ae:=aC w' ak;cases ah with
  | value v=>exact⟨_,_,w',seen P b.fn ((execOp (A7 T) o).events P w #[])++ #[],by simp[stepG.apply,U,Z,GStep.after,G,ao,EK],O,k1,ab,by simpa using ae⟩
  | skip=>exact⟨_,_,w',seen P b.fn ((execOp (A7 T) o).events P w #[])++ #[],by simp[stepG.apply,U,Z,GStep.after,G,ao,EK],O,k1,ab,by simpa using ae⟩
  | enter g args=>exact⟨_,_,w',seen P b.fn ((execOp (A7 T) o).events P w #[])++ #[],by simp[stepG.apply,U,Z,GStep.after,G,EK,GJ],O,k1,ab,by simpa using ae⟩
  | round l g tm as aH=>exact⟨_,_,w',seen P b.fn ((execOp (A7 T) o).events P w #[])++ #[],by simp[stepG.apply,U,Z,GStep.after,G,EK,GJ],O,k1,ab,by simpa using ae⟩
  | defer d=>
   have aF:=Ei (b:=b) (ds:=d::ds) (k:=k) T ops i rest undef o Y;exact⟨_,_,w',seen P b.fn ((execOp (A7 T) o).events P w #[])++ #[],by
    rw[← aF];simp[stepG.apply,U,Z,GStep.after,G,EK,GJ];rfl,O,k1,ab,by simpa using ae⟩
  | _=>exact O.elim
 | halt x w'=>rw[U] at O;exact O.elim
end
def OX(m:Nat)(listed:Array Bool):Bool:=(List.range m).all λi=>listed.getD i false
def AV(listed:Array Bool)(i:Nat):Array Bool:=listed.setIfInBounds i true
variable{oi:Oper}
section
variable (J:Judge P)(Q:Gs_)(b:Frame)(ds:Ld_)(ops:Ao_)(k:Li_)(cs:Lf_)(m:Nat)(D:Nat->Bool)
def JA:Nat->Array Bool->Av_->St->Prop
 | 0,listed,T,s=>Region.ready .any ops listed=[]/\J.ok Q (G (fr b T ds (.inRegion ops []::k)) cs) s
 | fuel+1,listed,T,s=>
  (OX m listed=true/\∀t,J.ok Q (G (fr b T ds (.inRegion ops (Region.linearise.go .any ops (fuel+1) t listed [])::k)) cs) s)∨
  (Region.ready .any ops listed≠ []/\s.q=false/\∀i∈Region.ready .any ops listed,∀o,ops[i]?=some o->(∀c,o.op≠ .defer c)/\
   (Region.wanted o (yielded ops T)=false->JA fuel (AV listed i) (Cb T o.dst undef) s)/\
   (Region.wanted o (yielded ops T)=true->lp P (execOp (A7 T) o) (A2 D s) (λO s'=>match O with
    | .value v=>JA fuel (AV listed i) (Cb T o.dst v) (BV D s s')
    | .skip=>JA fuel (AV listed i) (Cb T o.dst undef) (BV D s s')
    | .enter f args=>∃R,DK J f args (BV D s s') R/\∀v K,R v K->K.q=false/\(∀x o,(A2 D s).E x=some o->(A2 D K).E x=some o)/\JA fuel (AV listed i) (Cb T o.dst v) K
    | _=>False) (λ_ _=>False)))
variable {J Q b ds ops k cs m D}
theorem UC(Z:b.kind≠ .early):∀(fuel t:Nat) (listed:Array Bool) (T:Av_) (s:St),JA J Q b ds ops k cs m D fuel listed T s->
  J.ok Q (G (fr b T ds (.inRegion ops (Region.linearise.go .any ops fuel t listed [])::k)) cs) s:=by
 intro fuel
 induction fuel with
 | zero=>intro t listed T s h;simpa [Region.linearise.go] using h.2
 | succ fuel K=>
  intro t listed T s h;rcases h with⟨_,h⟩ | ⟨aa,ab,h⟩;exact h t
  .obtain⟨i,hi⟩:∃i,(Region.ready .any ops listed)[t%(Region.ready .any ops listed).length]?=some i:=by
    have:0<(Region.ready .any ops listed).length:=List.length_pos_iff.2 aa;exact⟨_,d3 (nP _ this)⟩
   have Y:=ll hi;have hgo:Region.linearise.go .any ops (fuel+1) t listed []=i::Region.linearise.go .any ops fuel (t/(Region.ready .any ops listed).length) (AV listed i) []:=by
    simp only[Region.linearise.go];change (match(Region.ready .any ops listed)[t%(Region.ready .any ops listed).length]? with
     | some i=>Region.linearise.go .any ops fuel (t/(Region.ready .any ops listed).length) (listed.setIfInBounds i true) [i]
     | none=>[].reverse)=_
    rw[hi];simp only;rw[linearise_go_acc];rfl
   rw[hgo];let⟨_,o,O,_⟩:=mem_ready.1 Y;let⟨hd,ae,ag⟩:=h i Y o O;cases hw:Region.wanted o (yielded ops T) with
   | false=>exact Judge.unwanted O hw (K _ _ _ _ (ae hw))
   | true=>
    refine Judge.Q8 D O hw Z hd ab (CH _ (ag hw) ?_ (λ_ _ h=>h));intro ah s' U;cases ah with
    | value v=>exact K _ _ _ _ U
    | skip=>exact K _ _ _ _ U
    | enter f args=>
     obtain⟨R,ai,aj⟩:=U;refine ai Q _ cs λv ak al=>?_;rw[Ei _ _ _ _ _ _ O];exact K _ _ _ _ (aj v ak al).2.2
    | _=>exact U.elim
theorem Vk{d:Option Tmp}{v:Value}{x:Operand}(h:∀t,d=some t->x≠ .tmp t):A7 (Cb T d v) x=A7 T x:=by
 cases d with
 | none=>rfl
 | some t=>
  cases x with
  | tmp u=>
   have K:t≠u:=λe=>h t rfl (e▸rfl);simp only[Cb,A7,f4,d9 K]
  | _=>rfl
theorem G7{d:Option Tmp}{v:Value}{o:Oper}(K:∀cs b,o.op≠ .select cs b)(h:∀t,d=some t->t ∉ o.looksAt ops):
  execOp (A7 (Cb T d v)) o=execOp (A7 T) o/\Region.wanted o (yielded ops (Cb T d v))=Region.wanted o (yielded ops T):=by
 refine⟨execOp_congr o K λx O=>Vk λt U Y=>h t U ?_,?_⟩;subst Y;exact ma _ (nE.2 ⟨.tmp t,by simpa using O,V⟩)
 .have:=wanted_put (ops:=ops) o (⟨T,[]⟩:Act) d v h
  rwa[act_put'] at this
 where
  act_put' {T : Av_}{d : Option Tmp}{v : Value} : (⟨T, []⟩ : Act).put d v = ⟨Cb T d v, []⟩ :=by cases d<;>rfl
theorem H6{d e:Option Tmp}{v u:Value}(h:∀t,d=some t->e≠some t):Cb (Cb T d v) e u=Cb (Cb T e u) d v:=by
 cases d with
 | none=>rfl
 | some t=>
  cases e with
  | none=>rfl
  | some K=>
   have O:t≠K:=λq=>h t rfl (q▸rfl);simp[Cb,nf _ _ O]
theorem PI{D:Nat->Bool}{s s':St}(K:s'.E=(A2 D s).E):(A2 D (BV D s s')).E=(A2 D s).E:=by
 funext x;by_cases h:D x;simp[A2,BV,h,St.get];have:=congrFun K x;simp[A2,h] at this;simp[A2,BV,h,this]
def HJ(ops:Ao_)(listed:Array Bool)(i:Nat)(oi:Oper):Bool:=
 (List.range ops.size).all λj=>j==i || listed.getD j true || match ops[j]? with
  | some K=>(K.after.any λe=>Region.binds .any e&&e.on==i) || oi.apart ops K
  | none=>true
def waits(ops:Ao_):Nat->Nat->Nat->Bool
 | 0,_,_=>false
 | f+1,j,i=>match ops[j]? with
  | some K=>K.after.any λe=>Region.binds .any e&&(e.on==i || waits ops f e.on i)
  | none=>true
def CW(ops:Ao_)(m:Nat):Bool:=
 (List.range ops.size).all λj=>decide (j<m) || (List.range m).all λi=>waits ops ops.size j i
def GL(ops:Ao_)(listed:Array Bool):Bool:=
 (List.range ops.size).all λj=> !listed.getD j false || match ops[j]? with
  | some K=>K.after.all λe=> !Region.binds .any e || listed.getD e.on false
  | none=>true
theorem NS{listed:Array Bool}(h:GL ops listed=true){j:Nat}(O:ops[j]?=some oi)(U:listed.getD j false=true):∀e∈oi.after,Region.binds .any e=true->listed.getD e.on false=true:=by
 intro e he hb;have:=lE.1 h j (lO.2 (d4.1 O).1);rw[U,O] at this;simp only[nH,oj] at this;have:=mU.1 this e he;rw[hb] at this;simpa using this
theorem Pv{listed:Array Bool}(Z:GL ops listed=true){i:Nat}:∀(f j:Nat) (O:Oper),ops[j]?=some O->(∀e∈O.after,Region.binds .any e=true->listed.getD e.on false=true)->waits ops f j i=true->listed.getD i false=true∨∃x,ops[x]?=none/\listed.getD x false=true:=by
 intro f
 induction f with
 | zero=>intro j O _ _ h;cases h
 | succ f aa=>
  intro j O ab hd h;simp only[waits,ab] at h;let⟨e,he,K⟩:=Array.any_eq_true'.1 h;simp only[f5,l6,mH] at K;obtain⟨hb,K⟩:=K;have U:=hd e he hb;rcases K with rfl | K;exact .inl U
  .cases Y:ops[e.on]? with
   | none=>exact .inr ⟨_,Y,U⟩
   | some o=>exact aa e.on o Y (λae ag ah=>NS Z Y U ae ag ah) K
theorem JA.take{i:Nat}{w:Bool}{v:Value}(hi:ops[i]?=some oi)(aU:i<m)(aV:CW ops m=true)(aW:Region.noSelect ops=true)(aX:∀c,oi.op≠ .defer c):
  ∀(fuel:Nat) (listed:Array Bool) (T:Av_) (s:St),HJ ops listed i oi=true->GL ops listed=true->listed.size=ops.size->i∈Region.ready .any ops listed->s.q=false->Region.wanted oi (yielded ops T)=w->
   (w=true->∀s',s'.q=false->(∀x o,(A2 D s).E x=some o->s'.E x=some o)->Yl P oi (A7 T) s' v)->
   JA J Q b ds ops k cs m D fuel (AV listed i) (Cb T oi.dst (if w then v else undef)) s->JA J Q b ds ops k cs m D (fuel+1) listed T s:=by
 have aj:∀(j:Nat) (ab:Oper),ops[j]?=some ab->∀cs b,ab.op≠Op.select cs b:=λj ab h cs b=>Region.noSelect_spec aW j ab cs b h;intro fuel
 induction fuel with
 | zero=>?_
 | succ fuel ao=>?_
 all_goals
  intro listed T s aJ aK ak ap aq hw al h;refine .inr ⟨λe=>(by rw[e] at ap;cases ap),aq,λj aL ab O=>?_⟩;by_cases ai:j=i
  .subst ai;obtain rfl:ab=oi:=by rw[hi] at O;exact(d6 O).symm
   refine⟨aX,λaB=>?_,λaC=>?_⟩;rw[aB] at hw;subst hw;exact h;rw[aC] at hw;subst hw;refine CH _ (al V (A2 D s) aq λ_ _ h=>h).out ?_ (λ_ _ h=>h);rintro aM s' ⟨rfl,rfl⟩;rw[JZ];exact h
  ·
   have aN:j∈Region.ready .any ops (AV listed i):=ready_mono aL ai;let⟨ae,U,aO,aD⟩:=mem_ready.1 aL;obtain rfl:U=ab:=by rw[O] at aO;exact(d6 aO).symm
   have aE:=(mem_ready.1 ap).1;have aY:(U.after.any λe=>Region.binds .any e&&e.on==i)=false:=by
    rw[Array.any_eq_false];intro e he K;simp only[f5,mH] at K;have:=aD _ (Array.getElem_mem he) K.1;rw[K.2] at this;have Y:listed.getD i true=listed.getD i false∨listed.size<=i:=by
     rcases lb i listed.size with q | q;left;simp[f4,q];exact .inr q
    rcases Y with Y | Y;rw[aE,this] at Y;cases Y;rw[f4,lk Y] at this;simp at this
   have aZ:oi.apart ops U=true:=by
    have am:j<ops.size:=(d4.1 O).1;have:=lE.1 aJ j (lO.2 am);simp only[l6,mH] at this;rcases this with(q | q) | q;exact absurd q ai;rw[ae] at q;cases q;rw[O] at q;simp only[l6] at q;rw[aY] at q;exact q.resolve_left (by simp)
   let⟨a1,ar,au⟩:=Oper.apart_spec aZ;let⟨p1,p2⟩:=G7 (ops:=ops) (T:=T) (v:=if w then v else undef) (aj j U O) a1
   first
    | exact absurd aN (by rw[h.1];simp)
    | (
     rcases h with⟨a0,_⟩ | ⟨bf,_,h⟩
     ·
      exfalso
      have a2:¬j<m:=by
       intro am
       have:=lE.1 a0 j (lO.2 am)
       have e2:(AV listed i).getD j false=listed.getD j false:=getD_set_ne false (lu ai)
       rw[e2] at this
       have Y:listed.getD j true=true:=by
        rcases lb j listed.size with q | q;simp[f4,q] at this ⊢;exact this;simp[f4,lk q] at this
       rw[ae] at Y;cases Y
      have am:j<ops.size:=(d4.1 O).1
      have:=lE.1 aV j (lO.2 am)
      simp only[l6,mZ] at this
      have:=lE.1 (this.resolve_left a2) i (lO.2 aU)
      rcases Pv aK _ j U O (λe he hb=>aD e he hb) this with q | ⟨x,Z,aa⟩
      .have a3:i<listed.size:=by rw[ak];exact(d4.1 hi).1
       simp[f4,a3] at q aE
       rw[aE] at q;cases q
      .have:¬x<listed.size:=by rw[ak];intro K;simp[K] at Z
       simp[f4,this] at aa
     .let⟨hd,aB,aC⟩:=h j aN U O
      have av:AV (AV listed i) j=AV (AV listed j) i:=by
       unfold AV;exact nf _ _ (lu ai)
      have aw:i∈Region.ready .any ops (AV listed j):=ready_mono ap (lu ai)
      have ay:HJ ops (AV listed j) i oi=true:=by
       refine lE.2 λx K=>?_
       have:=lE.1 aJ x K
       simp only[l6,mH] at this ⊢
       rcases this with(q | q) | q;exact .inl (.inl q)
       .left;right
        by_cases e:j=x;subst e;rw[ae] at q;cases q;rw[AV,getD_set_ne true e];exact q
       .exact .inr q
      have az:(AV listed j).size=ops.size:=by unfold AV;simpa using ak
      have aA:GL ops (AV listed j)=true:=by
       refine lE.2 λx K=>?_
       cases aF:ops[x]? with
       | none=>simp
       | some a4=>
        simp only[l6,nk]
        by_cases e:j=x
        .subst e
         obtain rfl:a4=U:=by rw[O] at aF;exact(d6 aF).symm
         right
         refine mU.2 λe he=>?_
         cases hb:Region.binds .any e with
         | false=>simp
         | true=>
          have:=aD e he hb
          by_cases e2:j=e.on
          .rw [← e2] at this
           have aG:j<listed.size:=by rw[ak];exact(d4.1 O).1
           simp[f4,aG] at this ae
           rw[ae] at this;cases this
          .rw [AV,getD_set_ne false e2];simpa using this
        .cases aP:(AV listed j).getD x false with
         | false=>exact .inl rfl
         | true=>
          right
          have a5:listed.getD x false=true:=by rw[AV,getD_set_ne false e] at aP;exact aP
          refine mU.2 λaH he=>?_
          cases hb:Region.binds .any aH with
          | false=>simp
          | true=>
           have:=NS aK aF a5 aH he hb
           by_cases e2:j=aH.on
           .rw [← e2] at this
            have aG:j<listed.size:=by rw[ak];exact(d4.1 O).1
            simp[f4,aG] at this ae
            rw[ae] at this;cases this
           .rw [AV,getD_set_ne false e2];simpa using this
      refine⟨hd,λa6=>?_,λa7=>?_⟩
      .have:=aB (by rw[p2];exact a6)
       rw[av,H6 ar] at this
       let⟨Z,aa⟩:=G7 (ops:=ops) (T:=T) (d:=U.dst) (v:=undef) (o:=oi) (aj i oi hi) au
       exact ao _ _ _ ay aA az aw aq (by rw[aa];exact hw) (λag s' a8 aI=>by unfold Yl;rw[Z];exact(al ag s' a8 aI).out) this
      .have aQ:=Ni _ (aC (by rw[p2];exact a7))
       rw[p1] at aQ
       refine CH _ aQ ?_ (λ_ _ h=>h)
       rintro aM s' ⟨K,aI,a9⟩
       have aR:=PI (D:=D) aI
       have aS:(BV D s s').q=false:=by show s'.q=false;rw[a9];exact aq
       cases aM with
       | value u=>
        simp only at K ⊢
        rw[av,H6 ar] at K
        let⟨Z,aa⟩:=G7 (ops:=ops) (T:=T) (d:=U.dst) (v:=u) (o:=oi) (aj i oi hi) au
        exact ao _ _ _ ay aA az aw aS (by rw[aa];exact hw) (λag s2 an ah=>by unfold Yl;rw[Z];exact(al ag s2 an (by rw[aR] at ah;exact ah)).out) K
       | skip=>
        simp only at K ⊢
        rw[av,H6 ar] at K
        let⟨Z,aa⟩:=G7 (ops:=ops) (T:=T) (d:=U.dst) (v:=undef) (o:=oi) (aj i oi hi) au
        exact ao _ _ _ ay aA az aw aS (by rw[aa];exact hw) (λag s2 an ah=>by unfold Yl;rw[Z];exact(al ag s2 an (by rw[aR] at ah;exact ah)).out) K
       | enter f args=>
        obtain⟨R,ba,bb⟩:=K
        refine⟨R,ba,λu be hu=>?_⟩
        let⟨aT,r1,r2⟩:=bb u be hu
        refine⟨aT,r1,?_⟩
        rw[av,H6 ar] at r2
        let⟨Z,aa⟩:=G7 (ops:=ops) (T:=T) (d:=U.dst) (v:=u) (o:=oi) (aj i oi hi) au
        exact ao _ _ _ ay aA az aw aT (by rw[aa];exact hw) (λag s2 an ah=>by unfold Yl;rw[Z];exact(al ag s2 an (λx o K=>ah x o (r1 x o K))).out) r2
       | _=>exact K.elim)
end
section
variable (J:Judge P)(Q:Gs_)(b:Frame)(n:Nat)(ds:Ld_)(ops:Ao_)(k:Li_)(cs:Lf_)(m:Nat)(D:Nat->Bool)
def AI(fuel:Nat)(listed:Array Bool)(L:Env)(s:St):Prop:=∀T,Has n L T->JA J Q b ds ops k cs m D fuel listed T s
end
def Cn:Nat->Bool:=λ_=>false
variable {D:Nat->Bool}{listed:Array Bool}
section
variable {b:Frame}{n m fuel:Nat}
theorem Oh(m:Nat)(D:Nat->Bool){id:Nat}(K:s.q=false)(hm:P.follows .mixedOrders=true)(O:(b.kind != .early)=true)(h:AI J Q b n ds ops k cs m D ops.size (Array.replicate ops.size false) L s):JL J Q b n L ds (.code (.region id ops true)::k) cs s:=
 Q9 K hm λt T U=>UC (by simpa using O) ops.size t _ T s (h T U)
theorem Tu{i:Nat}{v:Value}(hi:ops[i]?=some oi)(U:decide (i<m)=true)(Y:CW ops m=true)(Z:Region.noSelect ops=true)(O:(!CQ oi.op)=true)(aa:HJ ops listed i oi=true)(ab:GL ops listed=true)(ae:(listed.size==ops.size)=true)(ag:(Region.ready .any ops listed).contains i=true)(ah:s.q=false)
  (hw:AQ L ops oi=some true) (ai:A6 n oi.dst=true) (aj:∀ρ,Ed L ρ->∀s',s'.q=false->(∀x o,(A2 D s).E x=some o->s'.E x=some o)->Yl P oi ρ s' v)
  (h:AI J Q b n ds ops k cs m D fuel (AV listed i) (Az L oi.dst v) s):AI J Q b n ds ops k cs m D (fuel+1) listed L s:=λT K=>by
 refine JA.take (w:=true) (v:=v) hi (by simpa using U) Y Z (λc ak=>by rw[ak] at O;simp[CQ] at O) fuel listed T s aa ab (by simpa using ae) (by simpa using ag) ah (Cd K hw) (λ_ s' al am=>aj _ K.El s' al am) ?_
 exact h _ (K.put ai v)
theorem TW{i:Nat}(hi:ops[i]?=some oi)(U:decide (i<m)=true)(Y:CW ops m=true)(Z:Region.noSelect ops=true)(K:(!CQ oi.op)=true)(aa:HJ ops listed i oi=true)(ab:GL ops listed=true)(ae:(listed.size==ops.size)=true)(ag:(Region.ready .any ops listed).contains i=true)(ah:s.q=false)
  (hw:AQ L ops oi=some false) (ai:A6 n oi.dst=true)
  (h:AI J Q b n ds ops k cs m D fuel (AV listed i) (Az L oi.dst undef) s):AI J Q b n ds ops k cs m D (fuel+1) listed L s:=λT O=>by
 refine JA.take (w:=false) (v:=undef) hi (by simpa using U) Y Z (λc aj=>by rw[aj] at K;simp[CQ] at K) fuel listed T s aa ab (by simpa using ae) (by simpa using ag) ah (Cd O hw) (λe=>by cases e) ?_
 exact h _ (O.put ai undef)
theorem Qv(ae:s.q=false)(ag:Region.ready .any ops listed≠ [])
  (h:∀i∈Region.ready .any ops listed,∀o,ops[i]?=some o->(!CQ o.op)=true/\A6 n o.dst=true/\∃w,AQ L ops o=some w/\
   (w=false->AI J Q b n ds ops k cs m D fuel (AV listed i) (Az L o.dst undef) s)/\
   (w=true->∀ρ,Ed L ρ->lp P (execOp ρ o) (A2 D s) (λaa s'=>match aa with
    | .value v=>AI J Q b n ds ops k cs m D fuel (AV listed i) (Az L o.dst v) (BV D s s')
    | .skip=>AI J Q b n ds ops k cs m D fuel (AV listed i) (Az L o.dst undef) (BV D s s')
    | .enter f args=>∃R,DK J f args (BV D s s') R/\∀v K,R v K->K.q=false/\(∀x o,(A2 D s).E x=some o->(A2 D K).E x=some o)/\AI J Q b n ds ops k cs m D fuel (AV listed i) (Az L o.dst v) K
    | _=>False) (λ_ _=>False))):
  AI J Q b n ds ops k cs m D (fuel+1) listed L s:=λT O=>by
 refine .inr ⟨ag,ae,λi hi o ah=>?_⟩
 let⟨ab,U,w,hw,ai,aj⟩:=h i hi o ah
 have Y:=Cd O hw
 refine⟨λc ak=>by rw[ak] at ab;simp[CQ] at ab,λe=>?_,λe=>?_⟩
 .rw [e] at Y
  exact ai Y.symm _ (O.put U undef)
 .rw [e] at Y;refine CH _ (aj Y.symm _ O.El) ?_ (λ_ _ h=>h);intro aa s' Z;cases aa with
  | value v=>exact Z _ (O.put U v)
  | skip=>exact Z _ (O.put U undef)
  | enter f args=>
   obtain⟨R,al,am⟩:=Z;exact⟨R,al,λv K an=>let ⟨a,b,c⟩:=am v K an;⟨a,b,c _ (O.put U v)⟩⟩
  | _=>exact Z.elim
theorem AI.one{i:Nat}{o:Oper}(aa:s.q=false)(Y:Region.ready .any ops listed=[i])(hi:ops[i]?=some o)(O:(!CQ o.op&&A6 n o.dst)=true)(hw:AQ L ops o=some true)
  (h:∀ρ,Ed L ρ->lp P (execOp ρ o) (A2 D s) (λab s'=>match ab with
    | .value v=>AI J Q b n ds ops k cs m D fuel (AV listed i) (Az L o.dst v) (BV D s s')
    | .skip=>AI J Q b n ds ops k cs m D fuel (AV listed i) (Az L o.dst undef) (BV D s s')
    | .enter f args=>∃R,DK J f args (BV D s s') R/\∀v K,R v K->K.q=false/\(∀x o,(A2 D s).E x=some o->(A2 D K).E x=some o)/\AI J Q b n ds ops k cs m D fuel (AV listed i) (Az L o.dst v) K
    | _=>False) (λ_ _=>False)):
  AI J Q b n ds ops k cs m D (fuel+1) listed L s:=by
 simp only[f5] at O;refine Qv aa (by rw[Y];simp) λj U o' Z=>?_;rw[Y] at U;simp at U;subst U;obtain rfl:o'=o:=by rw[hi] at Z;exact(d6 Z).symm
 exact⟨O.1,O.2,true,hw,λe=>(by cases e),λ_=>h⟩
theorem AI.call{i:Nat}{d:Option Tmp}{f:FuncId}{args:Array Operand}{ty:TypeId}{p:String}{af:Ae_}{g:On_}(U:s.q=false)(Y:Region.ready .any ops listed=[i])
  (Z:ops[i]?=some ⟨d,.call ⟨.value (.func f),args,ats⟩,ty,p,af,g⟩) (aa:A6 n d=true) (hw:AQ L ops ⟨d,.call ⟨.value (.func f),args,ats⟩,ty,p,af,g⟩=some true) (hb:Cz P f=true) (ab:evs L args.toList=some vs)
  (ae:DK J f vs.toArray s R) (h:∀v K,R v K->K.q=false/\(∀x o,(A2 D s).E x=some o->(A2 D K).E x=some o)/\AI J Q b n ds ops k cs m D fuel (AV listed i) (Az L d v) K):
  AI J Q b n ds ops k cs m D (fuel+1) listed L s:=by
 refine AI.one U Y Z (by simp[CQ,aa]) hw λρ O=>?_;have ag:args.map ρ=vs.toArray:=by
  rw[← ER O ab];apply lR;simp
 have ah:ρ (.func f)=.func (.func f) #[] #[]:=O _ _ V;simp only[execOp,resolve,bind,Sem.bind,Deferred.ofValue,ah,pure,invoke];have e: #[]++args.map ρ++ #[]=vs.toArray:=by rw[ag];simp
 rw[e];refine H2 hb ?_;rw[JZ];exact⟨R,ae,h⟩
theorem AI.leaf{tail:List Nat}(K:OX m listed=true)(hgo:∀t,Region.linearise.go .any ops (fuel+1) t listed []=tail)(h:JL J Q b n L ds (.inRegion ops tail::k) cs s):AI J Q b n ds ops k cs m D (fuel+1) listed L s:=λT O=>
 .inl ⟨K,λt=>by rw[hgo t];exact h T O⟩
theorem AI.fin(K:Region.ready .any ops listed=[])(h:JL J Q b n L ds k cs s):AI J Q b n ds ops k cs m D 0 listed L s:=λT O=>⟨K,JL.done h T O⟩
theorem Xa{listed:Array Bool}{i:Nat}{tail:List Nat}{fuel:Nat}(K:Region.ready .any ops listed=[i])(h:∀t,Region.linearise.go .any ops fuel t (AV listed i) []=tail)(t:Nat):Region.linearise.go .any ops (fuel+1) t listed []=i::tail:=by
 simp only[Region.linearise.go];change (match(Region.ready .any ops listed)[t%(Region.ready .any ops listed).length]? with
  | some i=>Region.linearise.go .any ops fuel (t/(Region.ready .any ops listed).length) (listed.setIfInBounds i true) [i]
  | none=>[].reverse)=_
 rw[K];simp only[m2,Nat.mod_one,l4];rw[linearise_go_acc];have:=h (t/1);unfold AV at this;rw[this];rfl
theorem Vb{i:Nat}{rest:List Nat}{d:Option Tmp}{f:FuncId}{args:Array Operand}{ty:TypeId}{p:String}{af:Ae_}{g:On_}
  (U:ops[i]?=some ⟨d,.call ⟨.value (.func f),args,ats⟩,ty,p,af,g⟩) (hw:AQ L ops ⟨d,.call ⟨.value (.func f),args,ats⟩,ty,p,af,g⟩=some true) (K:((b.kind != .early)&&A6 n d)=true) (hb:Cz P f=true)
  (Y:evs L args.toList=some vs) (Z:DK J f vs.toArray s R) (aa:∀v s',R v s'->JL J Q b n (Az L d v) ds (.inRegion ops rest::k) cs s'):
  JL J Q b n L ds (.inRegion ops (i::rest)::k) cs s:=λT O=>by
 simp only[f5] at K
 have ab:args.map (A7 T)=vs.toArray:=by
  rw[← ER O.El Y];apply lR;simp
 refine Judge.oper U (Cd O hw) (by simpa using K.1) (.inr λc ae=>by cases ae) ?_;have hd:lp P (execOp (A7 T) ⟨d,.call ⟨.value (.func f),args,ats⟩,ty,p,af,g⟩) s (upon J Q b T ds ops i rest k cs d) (IN J Q b T ds ops i rest k cs):=by
  simp only[execOp,resolve,bind,Sem.bind,Deferred.ofValue,A7,pure,invoke];have e: #[]++args.map (A7 T)++ #[]=vs.toArray:=by rw[ab];simp
  rw[e];refine H2 hb (Z Q _ cs λv s' ag=>?_);rw[Ei (o:=⟨d,.call ⟨.value (.func f),args,ats⟩,ty,p,af,g⟩) _ _ _ _ _ U];exact aa v s' ag _ (O.put K.2 v)
 exact hd
theorem DK.enter{f:FuncId}{c:Code}(Y:P.funcs[f]?=some fn)(hb:fn.body=some c)(ae:vs.length<=fn.ntmps)
  (h:∀(Q:Gs_) (K:Frame) (cs:Lf_),(∀v s',R v s'->J.ok Q (G (K.finish v) cs) s')->JL J Q (base f) fn.ntmps (EL 0 vs) [] [.code c] (K::cs) s):DK J f vs.toArray s R:=λQ K cs Z=>by
 have he:Frame.enter P f vs.toArray .normal=fr (base f) (vs.toArray++Array.replicate (fn.ntmps - vs.length) undef) [] [.code c]:=by
  simp[Frame.enter,fr,Y,hb,base];rfl
 rw[he];refine h Q K cs Z _ ⟨by simp;omega,λt v aa=>?_⟩;let⟨_,O⟩:=H4 aa;have ab:t<vs.length:=by
  rcases lb t vs.length with U | U;exact U;simp at O;have:=(d0.1 O).1;omega
 rw[f4,lM (by simpa using ab)];simp at O;simp[O]
end
variable {E':LH}{B0:List (Nat×Obj)}
variable{blk:List (Nat×Obj)}
section
variable {b:Frame}{n:Nat}
theorem MJ(O:s.q=false)(h:(∃w,Fits s w)->JL J Q b n L ds k cs s):JL J Q b n L ds k cs s:=λT U=>by
 by_cases K:∃w,Fits s w;exact h K T U;exact J.step ⟨V,λw f=>absurd ⟨w,f⟩ K,λe=>by subst e;cases O⟩
theorem PQ{x:Nat}:∀{B:List (Nat×Obj)},(∃p∈B,p.1=x)->AM B H x≠none
 | [],⟨p,K,_⟩=>by cases K
 | (c,o)::B,⟨p,K,e⟩=>by
  simp only[AM]
  split;simp;rename_i O;rcases li.1 K with q | q;subst q;exact absurd e.symm O;exact PQ ⟨p,q,e⟩
theorem Nd.grow(U:Nd E H B)(hd:∀x,E' x≠none->AM B H x=none):Nd E' H B:=by
 have key:∀{C:List (Nat×Obj)},Nd E H C->(∀p∈C,p∈B)->Nd E' H C:=by
  intro C
  induction C with
  | nil=>intro _ _;trivial
  | cons p C Y=>
   obtain⟨c,o⟩:=p;intro hC O;refine⟨?_,hC.2.1,hC.2.2.1,Y hC.2.2.2 λp K=>O p (lc _ K)⟩;cases Z:E' c with
   | none=>rfl
   | some u=>exact absurd (hd c (by rw[Z];simp)) (PQ ⟨(c,o),O _ (by simp),rfl⟩)
 exact key U λp K=>K
def Nv(E:LH)(K:Nat)(v:Value)(n:Nat)(xs:Lv_):Prop:=
 ∃a c,v=.slice a n c/\n<=c/\xs.length=n*K/\(n=0∨∃bk off f e fr,a=some ⟨bk,off,none⟩/\E bk=some (.cells f e fr)/\∀j w,xs[j]?=some w->f[off+j]?=some w)
theorem Nv.nil{id:Nat}:Nv E id (.slice none 0 0) 0 []:=⟨none,0,V,la _,by simp,.inl V⟩
def GS(e:TypeId)(K:Nat)(a:Option Addr)(l c:Nat)(blk:List (Nat×Obj))(xs:Lv_):Prop:=
 (a=none/\l=0/\c=0/\blk=[]/\xs=[])∨∃bk f,a=some ⟨bk,0,none⟩/\blk=[(bk,.cells f e (0,0))]/\f.size=c*K/\l<=c/\xs=f.toList.take (l*K)
theorem GS.nil{e:TypeId}{id:Nat}:GS e id none 0 0 [] []:=.inl ⟨V,V,V,V,V⟩
theorem GS.length{e:TypeId}{id:Nat}{a:Option Addr}{c:Nat}(h:GS e id a l c blk xs):xs.length=l*id:=by
 rcases h with⟨_,rfl,_,_,rfl⟩ | ⟨bk,f,_,_,O,U,rfl⟩;simp;have:l*id<=c*id:=lz _ U;simp[O,m7 this]
theorem Su{t e:TypeId}{v:Value}{Q:Value->St->Prop}{z:Value}(O:P.underlying t=some (.slice e))(U:A5 P e=some v.cells.size)(Y:zeroOf P e=some z)(ag:z.cells.size=v.cells.size)(ah:0<v.cells.size)(ai:v.cells.size<=64)
  (Z:Nd E H B) (k:∀r,Nd E H (B++ [(r,.cells v.cells e (0,0))])->Q (.slice (some ⟨r,0,none⟩) 1 1) (mk E H (B++ [(r,.cells v.cells e (0,0))]))):lp P (Instr.buildSlice t 1 #[(0,v)]) (mk E H B) Q X:=by
 unfold Instr.buildSlice;refine Av _ _ (B6 O ?_);refine Av _ _ (DO U ?_);rw[d7 (by omega),d7 (by omega)];refine Av (x:=zeroValue e) _ (Fh Y ?_);have aa:Instr.fill (λi=>some (i*v.cells.size,v.cells.size)) ((Array.range (1*v.cells.size)).map λi=>z.cells[i%z.cells.size]!) [(0,v)]=some v.cells:=by
  simp only[Instr.fill,Array.size_map,Array.size_range,ot,mC];rw[d7 (by simp)];congr 1;apply mw;intro j;have key:∀(l:Lv_) (st:Nat) (c:Av_),st+l.length<=c.size->∀j,(List.foldl (λcs (p:Value×Nat)=>cs.setIfInBounds (0+p.2) p.1) c (l.zipIdx st))[j]?=if st<=j/\j<st+l.length then l[j - st]? else c[j]? :=by
   intro l
   induction l with
   | nil=>intro st c _ j;simp;omega
   | cons x l ab=>
    intro st c aj j;simp only[nR,m6,lC] at*;rw[ab (st+1) _ (by simp;omega) j];simp only[mD];by_cases ae:j=st;subst ae;rw[d7 (by omega),d5 (by omega)];rw[nT,l4,k9 (by omega)]
    .by_cases e2:st+1<=j/\j<st+1+l.length
     .rw [d5 e2,d5 (by omega)];have:j - st=(j - (st+1))+1:=by omega
      rw[this];simp
     .rw [d7 e2,d7 (by omega),d9 (by omega)]
  have:=key v.cells.toList 0 ((Array.range v.cells.size).map λi=>z.cells[i%z.cells.size]!) (by simp) j;rw[← Array.foldl_toList,Array.toList_zipIdx,this];by_cases K:j<v.cells.size;simp[K];simp[K]
 rw[GB];simp only[aa];exact Av _ _ (HA Z k)
end
variable{d1:Tmp}{t1:TypeId}
section
variable {b:Frame}{n:Nat}
theorem KI{ρ:Operand->Value}{d:Option Tmp}{x y:Operand}{ty:TypeId}{p:String}{af:Ae_}{g:On_}:
  execOp ρ ⟨d,.call ⟨.builtin .append,#[x,y],ats⟩,ty,p,af,g⟩=(do pure (Next.value (← Builtin.append_ ats ty #[ρ x,ρ y]))):=by
 simp[execOp,resolve,invoke,builtin,bind,Sem.bind,pure]
theorem Sz{ρ:Operand->Value}{d:Option Tmp}{y:Operand}{t ty:TypeId}{p:String}{af:Ae_}{g:On_}:
  execOp ρ ⟨d,.buildSlice t 1 #[(0,y)],ty,p,af,g⟩=(do pure (Next.value (← Instr.buildSlice t 1 #[(0,ρ y)]))):=by
 simp[execOp]
theorem Xc{L:Env}{w:Value}:ev (Az L (some d1) w) (.tmp d1)=some w:=by
 simp[Az,ev,look]
theorem HE(l r:List α)(x y:α):(l++x::r).set l.length y=l++y::r:=by simp
theorem Iy{e t:TypeId}{id ai c m:Nat}{a:Option Addr}{i:Nat}{rest:List Nat}{d:Option Tmp}{x y:Operand}{ty:TypeId}{p:String}{af:Ae_}{g:On_}{z:Value}{B1:List (Nat×Obj)}
  (au:ops[i]?=some ⟨d,.call ⟨.builtin .append,#[x,y],ats⟩,ty,p,af,g⟩) (hw:AQ L ops ⟨d,.call ⟨.builtin .append,#[x,y],ats⟩,ty,p,af,g⟩=some true) (av:BH b n ⟨d,.call ⟨.builtin .append,#[x,y],ats⟩,ty,p,af,g⟩=true)
  (aw:ev L x=some (.slice a l c)) (ay:ev L y=some (.slice ax m cx)) (az:ats[0]?=some t) (aA:ats[1]?=some t1) (aB:P.underlying t=some (.slice e)) (aC:P.underlying t1=some (.slice e)) (aD:A5 P e=some id) (hb:Ew P e=some ai) (aE:zeroOf P e=some z) (aF:z.cells.size=id)
  (aG:0<ai) (aH:ai<=127) (aR:0<m) (aI:l+m<=2^40) (aJ:∀w∈ys,BX w=true) (aj:GS e id a l c blk xs) (aK:Nd E H (B0++blk++B1)) (aL:GR (mk E H (B0++blk++B1)) (.slice ax m cx) id ys)
  (h:∀aq ab ak,GS e id aq (l+m) ab ak (xs++ys)->Nd E H (B0++ak)->JL J Q b n (Az L d (.slice aq (l+m) ab)) ds (.inRegion ops rest::k) cs (mk E H (B0++ak))):
  JL J Q b n L ds (.inRegion ops (i::rest)::k) cs (mk E H (B0++blk++B1)):=by
 refine JL.op au hw av λρ ar=>?_;rw[KI,ar x _ aw,ar y _ ay];have aM:Ng (B0++blk++B1) B0.length e id a l c xs:=by
  rcases aj with⟨O,aa,ae,al,ag⟩ | ⟨bk,f,O,aa,ae,al,ag⟩;exact .inl ⟨O,aa,ae,ag⟩;refine .inr ⟨bk,f,O,?_,ae,al,ag⟩;subst aa;simp
 have hlen:=aj.length;refine Av _ _ (N9 (pl:=B0.length) az aA aC aB aD hb aE aF aK aM aL aJ aG aI aH ?_ ?_ ?_)
 ·
  intro bk f K ah aS aT aN am an Z;rcases aj with⟨O,_⟩ | ⟨U,f0,O,aa,ae,al,ag⟩;rw[O] at ah;cases ah
  .subst aa;have aO:U=bk:=by rw[O] at ah;simpa using ah
   subst aO;have aP:(B0++ [(U,Obj.cells f0 e (0,0))]++B1).set B0.length (U,.cells K e (0,0))=B0++ [(U,.cells K e (0,0))]++B1:=by
    rw[ls,ls];exact HE _ _ _ _
   rw[aP] at Z ⊢;have ao:Nd E H (B0++ [(U,.cells K e (0,0))]):=Nd.left Z;refine JL.drop (B0++ [(U,.cells K e (0,0))]) (λp ap=>?_) Z (h a c _ (.inr ⟨U,K,O,V,am,aN,an.symm⟩) ao);exact lw.1 (ma _ ap)
 .intro _ hm;omega
 ·
  intro r K ab aQ am an Z;have ao:Nd E H (B0++ [(r,.cells K e (0,0))]):=Nd.pick Z;refine JL.drop (B0++ [(r,.cells K e (0,0))]) (λp ap=>?_) Z (h (some ⟨r,0,none⟩) ab _ (.inr ⟨r,K,V,V,am,aQ,an.symm⟩) ao);refine lw.1 ?_;rcases lm.1 ap with q | q;simp[q];exact lI _ q
 where
  Nd.left {E H : LH}{A C : List (Nat × Obj)}(h : Nd E H (A ++ C)) : Nd E H A :=by
    induction A with
    | nil =>trivial
    | cons p A ih =>
      obtain ⟨c, o⟩ :=p
      obtain ⟨h1, h2, h3, h4⟩ :=h
      exact ⟨h1, h2, λq hq =>h3 q (ma _ hq), ih h4⟩
  Nd.pick {E H : LH}{A C F : List (Nat × Obj)}{x : Nat × Obj}(h : Nd E H (A ++ C ++ F ++ [x])) : Nd E H (A ++ [x]) :=by
    induction A with
    | nil =>
      have : ∀ (D : List (Nat × Obj)), Nd E H (D ++ [x]) -> Nd E H [x] :=by
        intro D
        induction D with
        | nil =>exact λh =>h
        | cons p D ih =>obtain ⟨c, o⟩ :=p; exact λh =>ih h.2.2.2
      exact this _ h
    | cons p A ih =>
      obtain ⟨c, o⟩ :=p
      obtain ⟨h1, h2, h3, h4⟩ :=h
      refine ⟨h1, h2, λq hq =>h3 q ?_, ih h4⟩
      rcases lm.1 hq with hq | hq
      . simp[hq]
      . exact lI _ hq
theorem TD{id:Nat}{e:TypeId}{v:Value}{A:List (Nat×Obj)}(O:v.cells.size=id)(U:Nd E H (A++ [(r,.cells v.cells e (0,0))])):
  GR (mk E H (A++ [(r,.cells v.cells e (0,0))])) (.slice (some ⟨r,0,none⟩) 1 1) id v.cells.toList:=by
 refine⟨.inl V,by simp[O],la _,λj w Y=>?_⟩;simp only[mD];refine QL (i:=A.length) U (c:=v.cells) (e:=e) (f:=(0,0)) (by simp) ?_;simpa using Y
theorem S2{e t t2:TypeId}{id O c:Nat}{a:Option Addr}{i ae:Nat}{rest:List Nat}{d:Option Tmp}{x y:Operand}{ty U:TypeId}{p Y:String}{af Z:Ae_}{g g':On_}{z v:Value}
  (am:ops[i]?=some ⟨some d1,.buildSlice t2 1 #[(0,y)],U,Y,Z,g'⟩) (hw:AQ L ops ⟨some d1,.buildSlice t2 1 #[(0,y)],U,Y,Z,g'⟩=some true) (an:BH b n ⟨some d1,.buildSlice t2 1 #[(0,y)],U,Y,Z,g'⟩=true)
  (ao:ops[ae]?=some ⟨d,.call ⟨.builtin .append,#[x,.tmp d1],ats⟩,ty,p,af,g⟩) (ap:∀w,AQ (Az L (some d1) w) ops ⟨d,.call ⟨.builtin .append,#[x,.tmp d1],ats⟩,ty,p,af,g⟩=some true) (aq:BH b n ⟨d,.call ⟨.builtin .append,#[x,.tmp d1],ats⟩,ty,p,af,g⟩=true)
  (ar:∀w,ev (Az L (some d1) w) x=some (.slice a l c)) (au:ev L y=some v) (av:ats[0]?=some t) (aw:ats[1]?=some t1) (ay:P.underlying t=some (.slice e)) (az:P.underlying t1=some (.slice e)) (aA:P.underlying t2=some (.slice e)) (ag:A5 P e=some id) (hb:Ew P e=some O) (ah:zeroOf P e=some z) (ai:z.cells.size=id)
  (aB:0<O) (aC:O<=127) (aa:v.cells.size=id) (aI:0<id) (aJ:id<=64) (aD:l+1<=2^40) (aE:∀w∈v.cells.toList,BX w=true) (aF:GS e id a l c blk xs) (aG:Nd E H (B0++blk))
  (h:∀w aj ak ab,GS e id aj (l+1) ak ab (xs++v.cells.toList)->Nd E H (B0++ab)->JL J Q b n (Az (Az L (some d1) w) d (.slice aj (l+1) ak)) ds (.inRegion ops rest::k) cs (mk E H (B0++ab))):
  JL J Q b n L ds (.inRegion ops (i::ae::rest)::k) cs (mk E H (B0++blk)):=by
 refine JL.op am hw an λρ aH=>?_;rw[Sz,aH y _ au];refine Av _ _ (Su (z:=z) (v:=v) aA (by rw[aa];exact ag) ah (by rw[aa];exact ai) (by omega) (by omega) aG λr al=>?_);refine Iy (B1:=[(r,.cells v.cells e (0,0))]) (m:=1) (cx:=1) (ax:=some ⟨r,0,none⟩) (y:=.tmp d1) (x:=x) (ys:=v.cells.toList) (l:=l) (c:=c) (a:=a) (blk:=blk) (xs:=xs) ao (ap _) aq (ar _) Xc av aw ay az ag hb ah ai aB aC (by omega) aD aE aF al ?_ (h _);exact TD aa al
theorem SN{e:TypeId}{id c:Nat}{a:Option Addr}(aa:GS e id a l c blk xs)(U:Nd E H (B0++blk))
  (h:∀E',Le E E'->Nv E' id (.slice a l c) l xs->Nd E' H B0->JL J Q b n L ds todo cs (mk E' H B0)):JL J Q b n L ds todo cs (mk E H (B0++blk)):=by
 rcases aa with⟨rfl,rfl,rfl,rfl,rfl⟩ | ⟨bk,f,rfl,rfl,ab,Y,rfl⟩;simp only[lf] at U ⊢;exact h E (Le.refl _) .nil U
 .have ae:(B0++ [(bk,Obj.cells f e (0,0))])[B0.length]?=some (bk,Obj.cells f e (0,0)):=by simp
  refine JL.freeze B0.length U ae λE' hle ag Z=>?_;have ah:(B0++ [(bk,Obj.cells f e (0,0))]).eraseIdx B0.length=B0:=by rw[mM (la _)];simp
  rw[ah] at Z ⊢;refine h E' hle ⟨_,c,V,Y,?_,.inr ⟨bk,0,f,e,(0,0),V,ag,λj w O=>?_⟩⟩ Z;have:l*id<=c*id:=lz _ Y;simp[ab,m7 this];rw[l5] at O;split at O;simpa using O;cases O
end
abbrev iV(n:Int):Value:=.int .i64 n
variable {c:Nat}
section
variable {x:Operand}{a:Nat}
end
variable{K:TypeInfo}
theorem Oz{P:Program}{t:TypeId}(h:P.types[t]?=some K):P.info? t=some K:=by
 have:=(d4.1 h).1;unfold Tables.info?;rw[d5 this,h]
theorem AB{P:Program}{t:TypeId}(h:P.types[t]?=some K):A5 P t=some K.size:=by simp[A5,Oz h]
theorem Cy{P:Program}{t:TypeId}(h:P.types[t]?=some K):Ew P t=some K.bytes:=by simp[Ew,Oz h]
theorem B4{P:Program}{t:TypeId}(h:P.types[t]?=some K):zeroOf P t=K.zero:=by simp[zeroOf,Oz h]
def Yc:TypeDesc->Bool | .struct _=>true | .array _ _=>true | _=>false
theorem B5{P:Program}{t:TypeId}{d:TypeDesc}(h:P.underlying t=some d):C8 P t=some (Yc d):=by
 unfold C8;rw[h];cases d<;>rfl
theorem A0{P:Program}{f:FuncId}(h:P.funcs[f]?=some fn)(hb:(!(fn.name== "runtime.NumGoroutine")&&fn.body.isSome)=true):Cz P f=true:=by
 simp only[Cz,h];exact hb
def Rn(a:Nat):Nat->List Nat
 | 0=>[]
 | n+1=>Rn a n++(if a.testBit n then [n] else [])
abbrev nums(a:Nat):List Nat:=Rn a 16
end Pal
namespace Pal
open Go Go.Conc
def At(E:LH)(bk o:Nat)(ws:Lv_):Prop:=∃f e fr,E bk=some (.cells f e fr)/\∀j w,ws[j]?=some w->f[o+j]?=some w
theorem At.Ad{E E':LH}{bk o:Nat}{ws:Lv_}(h:At E bk o ws)(hle:Le E E'):At E' bk o ws:=let ⟨f,e,fr,K,O⟩:=h;⟨f,e,fr,hle _ _ K,O⟩
variable{j:Nat}{w:Value}
theorem At.cell{E H:LH}{B:List (Nat×Obj)}{bk o:Nat}{ws:Lv_}(h:At E bk o ws)(K:ws[j]?=some w):(mk E H B).cell? ⟨bk,o+j,none⟩=some w:=
 let ⟨_,_,_,O,U⟩:=h;T2 O (U j w K)
theorem At.cells{E H:LH}{B:List (Nat×Obj)}{bk o:Nat}{ws:Lv_}(h:At E bk o ws):∀j v,ws[j]?=some v->(mk E H B).cell? (Addr.add ⟨bk,o,none⟩ j)=some v:=λj v K=>by
 rw[CV rfl];exact h.cell K
variable {P:Program}{J:Judge P}{Q:Gs_}{ds:Ld_}{ops:Ao_}{k:Li_}{cs:Lf_}{L:Env}{s:St}{E E' H:LH}{B B0:List (Nat×Obj)}
variable {d:Option Tmp}{y:Operand}{t u ty e:TypeId}{p:String}{af:Ae_}{g:On_}{rest:List Nat}{kd:IntKind}
section
variable {b:Frame}{n:Nat}
variable {x:Operand}{v:Value}{i:Nat}
theorem JL.put(h:look L i=some v)(O:JL J Q b n (Az L (some i) v) ds k cs s):JL J Q b n L ds k cs s:=λT K=>
 O T ⟨K.size,λt w e=>by
  simp only[Az,look] at e
  split at e;rename_i U;subst U;cases e;exact K.at_ _ _ h
  .exact K.at_ _ _ e⟩
theorem T8{q:Prop} [Decidable q] (h:look L i=some (.bool (decide q)))(O:q->JL J Q b n (Az L (some i) (.bool true)) ds k cs s)(U:¬q->JL J Q b n (Az L (some i) (.bool false)) ds k cs s):JL J Q b n L ds k cs s:=by
 by_cases K:q;refine JL.put (i:=i) (v:=.bool true) ?_ (O K);rw[h,mn K];refine JL.put (i:=i) (v:=.bool false) ?_ (U K);rw[h,mp K]
theorem TC{c:Bool}(h:look L i=some (.bool c))(K:c=true->JL J Q b n (Az L (some i) (.bool true)) ds k cs s)(O:c=false->JL J Q b n (Az L (some i) (.bool false)) ds k cs s):JL J Q b n L ds k cs s:=by
 cases c;exact JL.put h (O V);exact JL.put h (K V)
end
variable{O:Array Field}
theorem Rm{P:Program}{s:St}{ρ:Operand->Value}{d:Option Tmp}{t ty ft:TypeId}{x:Operand}{p:String}{af:Ae_}{g:On_}{a:Addr}{i:Nat}{K:Field}(U off:Nat)(Y:P.underlying t=some (.struct O))(Z:A5 P ft=some (U+1))(hi:O[i]?=some K)(aa:K.type=ft)(ab:K.offset=off)(ae:ρ x=.pointer (some a)):
  Yl P ⟨d,.fieldAddr t x i,ty,p,af,g⟩ ρ s (.pointer (some (a.add off))):=by
 subst aa ab;exact Yl.fieldAddr Y hi Z ae
section
variable {b:Frame}{n:Nat}
variable {x:Operand}{v:Value}{i:Nat}
theorem At.O3{bk o:Nat}{ws:Lv_}(h:At E bk o ws)(K:∀x o,E x=some o->s.E x=some o)(O:ws[j]?=some w):s.cell? ⟨bk,o+j,none⟩=some w:=by
 obtain⟨f,e,fr,U,Y⟩:=h;unfold St.cell? St.get;rw[K _ _ U];exact Y j w O
theorem At.Jf{bk o:Nat}{ws:Lv_}(h:At E bk o ws)(K:∀x o,E x=some o->s.E x=some o):∀j v,ws[j]?=some v->s.cell? (Addr.add ⟨bk,o,none⟩ j)=some v:=λj v O=>by
 rw[CV rfl];exact h.O3 K O
end
variable {listed:Array Bool}
section
variable {b:Frame}{n m fuel:Nat}
variable {x:Operand}{v:Value}{i:Nat}
end
variable {D:Nat->Bool}
section
variable {b:Frame}{n m fuel i:Nat}{v:Value}
theorem AI.put(h:look L i=some v)(O:AI J Q b n ds ops k cs m D fuel listed (Az L (some i) v) s):AI J Q b n ds ops k cs m D fuel listed L s:=λT K=>
 O T ⟨K.size,λt w e=>by
  simp only[Az,look] at e
  split at e;rename_i U;subst U;cases e;exact K.at_ _ _ h
  .exact K.at_ _ _ e⟩
theorem Mc{q:Prop} [Decidable q] (h:look L i=some (.bool (decide q)))(O:q->AI J Q b n ds ops k cs m D fuel listed (Az L (some i) (.bool true)) s)(U:¬q->AI J Q b n ds ops k cs m D fuel listed (Az L (some i) (.bool false)) s):AI J Q b n ds ops k cs m D fuel listed L s:=by
 by_cases K:q;refine AI.put (i:=i) (v:=.bool true) ?_ (O K);rw[h,mn K];refine AI.put (i:=i) (v:=.bool false) ?_ (U K);rw[h,mp K]
theorem PX{c:Bool}(h:look L i=some (.bool c))(K:c=true->AI J Q b n ds ops k cs m D fuel listed (Az L (some i) (.bool true)) s)(O:c=false->AI J Q b n ds ops k cs m D fuel listed (Az L (some i) (.bool false)) s):AI J Q b n ds ops k cs m D fuel listed L s:=by
 cases c;exact AI.put h (O V);exact AI.put h (K V)
end
structure Rp (α:Type) where
 n:Nat
 r:LH->Lv_->α->Prop
 Ad:∀{E E':LH}{ws:Lv_}{x:α},Le E E'->r E ws x->r E' ws x
 len:∀{E:LH}{ws:Lv_}{x:α},r E ws x->ws.length=n
 one:∀{E:LH}{ws:Lv_}{x:α},r E ws x->∀w∈ws,BX w=true
def rK(kd:IntKind):Rp Int:=⟨1,λ_ ws x=>ws=[.int kd x],λ_ h=>h,λh=>by subst h;rfl,λh w hw=>by subst h;simp at hw;subst hw;rfl⟩
abbrev rI:Rp Int:=rK .i64
def rN(kd:IntKind):Rp Nat:=⟨1,λ_ ws x=>ws=[.int kd ((x:Nat):Int)],λ_ h=>h,λh=>by subst h;rfl,λh w hw=>by subst h;simp at hw;subst hw;rfl⟩
def rB:Rp Bool:=⟨1,λ_ ws x=>ws=[.bool x],λ_ h=>h,λh=>by subst h;rfl,λh w hw=>by subst h;simp at hw;subst hw;rfl⟩
def rP{α β:Type}(p:Rp α)(q:Rp β):Rp (α×β):=⟨p.n+q.n,λE ws x=>∃U Y,ws=U++Y/\p.r E U x.1/\q.r E Y x.2,
 λhle ⟨a,b,h,K,O⟩=>⟨a,b,h,p.Ad hle K,q.Ad hle O⟩,λ⟨a,b,h,K,O⟩=>by subst h;rw[lr,p.len K,q.len O],
 λ⟨a,b,h,K,O⟩ w hw=>by
  subst h
  rcases lm.1 hw with hw | hw
  .exact p.one K w hw
  .exact q.one O w hw⟩
def Ak{α:Type}(p:Rp α)(E:LH)(a:Option Addr)(c:Nat)(xs:List α):Prop:=
 xs.length<=c/\((xs=[]/\∀ad:Addr,a=some ad->ad.spot=none∨c=0)∨∃bk off,a=some ⟨bk,off,none⟩/\∀(i:Nat) x,xs[i]?=some x->∃ws,p.r E ws x/\At E bk (off+i*p.n) ws)
variable{α:Type}{c:Nat}
theorem Ak.Ad{p:Rp α}{E E':LH}{a:Option Addr}{xs:List α}(h:Ak p E a c xs)(hle:Le E E'):Ak p E' a c xs:=
 ⟨h.1,h.2.imp id λ⟨bk,off,K,O⟩=>⟨bk,off,K,λi x U=>let ⟨ws,Y,Z⟩:=O i x U;⟨ws,p.Ad hle Y,Z.Ad hle⟩⟩⟩
theorem Ak.nil{p:Rp α}{E:LH}:Ak p E none c []:=⟨mz _,.inl ⟨V,λ_ h=>by cases h⟩⟩
def rL{α:Type}(p:Rp α):Rp (List α):=⟨1,λE ws xs=>∃a c,ws=[.slice a xs.length c]/\Ak p E a c xs,
 λhle ⟨a,c,h,K⟩=>⟨a,c,h,K.Ad hle⟩,λ⟨a,c,h,K⟩=>by subst h;rfl,λ⟨a,c,h,K⟩ w hw=>by subst h;simp at hw;subst hw;rfl⟩
def rA{α:Type}(k:Nat)(p:Rp α):Rp (List α):=⟨k*p.n,λE ws xs=>xs.length=k/\∃wss:List (Lv_),ws=wss.flatten/\wss.length=k/\∀(i:Nat) x us,xs[i]?=some x->wss[i]?=some us->p.r E us x,
 λhle ⟨U,wss,h,K,O⟩=>⟨U,wss,h,K,λi x us a b=>p.Ad hle (O i x us a b)⟩,
 λ{E ws xs} ⟨U,wss,h,K,O⟩=>by
  subst h
  have:∀(wss:List (Lv_)) (xs:List α),xs.length=wss.length->(∀(i:Nat) x us,xs[i]?=some x->wss[i]?=some us->p.r E us x)->wss.flatten.length=wss.length*p.n:=by
   intro wss
   induction wss with
   | nil=>intro xs _ _;simp
   | cons us wss Z=>
    intro xs Y h
    cases xs with
    | nil=>simp at Y
    | cons x xs=>
     rw[lh,lr,p.len (h 0 x us rfl rfl),Z xs (by simpa using Y) (λi y u a b=>h (i+1) y u a b),lC,lU,nU]
  rw[this wss xs (by omega) O,K],
 λ{E ws xs} ⟨U,wss,h,K,O⟩ w hw=>by
  subst h
  let⟨us,aa,hw⟩:=mt.1 hw
  let⟨i,hi⟩:=lw.1 aa
  have ab:i<xs.length:=by rw[U,← K];exact(d0.1 hi).1
  exact p.one (O i _ us (d3 ab) hi) w hw⟩
def ix{α:Type}(xs:List α)(i:Int):Option α:=if 0<=i then xs[i.toNat]? else none
theorem Ig{xs:List α}{i:Int}{x:α}(h:ix xs i=some x):∃m:Nat,i=m/\xs[m]?=some x:=by
 unfold ix at h;split at h;exact⟨i.toNat,by omega,h⟩;cases h
def AG(x:Int):Option Int:=if -9223372036854775808<=x/\x<=9223372036854775807 then some x else none
theorem JX{x y:Int}(h:AG x=some y):y=x/\ -9223372036854775808<=x/\x<=9223372036854775807:=by
 unfold AG at h;split at h;rename_i hb;exact⟨(d6 h).symm,hb⟩;cases h
variable{β:Type}
theorem bind_some{o:Option α}{f:α->Option β}{r:β}(h:o.bind f=some r):∃x,o=some x/\f x=some r:=by
 cases o with
 | none=>cases h
 | some x=>exact⟨x,rfl,h⟩
inductive Bl (S A:Type) where
 | more (s:S)
 | done (a:A)
def iter{S A:Type}(body:S->Option (Bl S A)):Nat->S->Option A
 | 0,_=>none
 | f+1,s=>match body s with
  | none=>none
  | some (.done a)=>some a
  | some (.more s')=>iter body f s'
variable{A:Type}
theorem N4{S:Type}{body:S->Option (Bl S A)}{f:Nat}{s:S}{a:A}(h:iter body (f+1) s=some a):∃st,body s=some st:=by
 simp only[iter] at h;cases hb:body s with
 | none=>rw[hb] at h;cases h
 | some st=>exact⟨st,rfl⟩
theorem N1{S:Type}{body:S->Option (Bl S A)}{f:Nat}{s:S}{a K:A}(h:iter body (f+1) s=some a)(hb:body s=some (.done K)):K=a:=by
 simp only[iter,hb] at h;exact d6 h
theorem N2{S:Type}{body:S->Option (Bl S A)}{f:Nat}{s s':S}{a:A}(h:iter body (f+1) s=some a)(hb:body s=some (.more s')):iter body f s'=some a:=by
 simp only[iter,hb] at h;exact h
abbrev Seg:=List (Nat×Obj)
def Ah(E H:LH)(S:List Seg):St:=mk E H S.flatten
def An(E H:LH)(S:List Seg):Prop:=Nd E H S.flatten
theorem Nd.mem{E H:LH}:∀{B:List (Nat×Obj)}{b:Nat}{o:Obj},Nd E H B->(b,o)∈B->∃i:Nat,B[i]?=some (b,o):=λ_ h=>lw.1 h
theorem Nd.iff{E H:LH}:∀{B:List (Nat×Obj)},Nd E H B↔(B.map (·.1)).Nodup/\∀p∈B,E p.1=none/\H p.1=none
 | []=>by simp[Nd]
 | (b,o)::B=>by
  simp only[Nd,m3,m8,li,forall_eq_or_imp,Nd.iff (B:=B),mr,not_exists,not_and]
  constructor;rintro⟨K,O,U,Y,Z⟩;exact⟨⟨U,Y⟩,⟨K,O⟩,Z⟩;rintro⟨⟨U,Y⟩,⟨K,O⟩,Z⟩;exact⟨K,O,U,Y,Z⟩
variable{B':List (Nat×Obj)}
theorem Nd.perm{E H:LH}{B:List (Nat×Obj)}(h:Nd E H B)(K:B.Perm B'):Nd E H B':=by
 rw[Nd.iff] at h ⊢;exact⟨(K.map _).nodup_iff.1 h.1,λp O=>h.2 p (K.mem_iff.2 O)⟩
theorem KL{E H:LH}{B:List (Nat×Obj)}(h:Nd E H B)(K:B.Perm B'):AM B H=AM B' H:=by
 funext x;by_cases O:∃p∈B,p.1=x;obtain⟨⟨b,o⟩,hm,rfl⟩:=O;let⟨i,hi⟩:=h.mem hm;let⟨j,U⟩:=(h.perm K).mem (K.mem_iff.1 hm);rw[H9 h hi,H9 (h.perm K) U]
 .have key:∀{C:List (Nat×Obj)},(∀p∈C,p.1≠x)->AM C H x=H x:=by
   intro C
   induction C with
   | nil=>intro _;rfl
   | cons p C Y=>
    intro hC;obtain⟨c,u⟩:=p;have Z:x≠c:=λe=>hC (c,u) (by simp) e.symm;simp only[AM,d7 Z];exact Y λp K=>hC p (lc _ K)
  rw[key λp K e=>O ⟨p,K,e⟩,key λp aa e=>O ⟨p,K.mem_iff.2 aa,e⟩]
theorem C3{E H:LH}{B:List (Nat×Obj)}(h:Nd E H B)(K:B.Perm B'):mk E H B=mk E H B':=by unfold mk;rw[KL h K]
variable{seg seg':Seg}
theorem Cl{S:List Seg}(h:S[j]?=some seg):S.flatten.Perm ((S.set j []).flatten++seg)/\(S.set j seg').flatten.Perm ((S.set j []).flatten++seg'):=by
 induction S generalizing j with
 | nil=>simp at h
 | cons x S K=>
  cases j with
  | zero=>
   simp at h;subst h;simp only[mS,lh,lx];exact⟨f6,f6⟩
  | succ j=>
   simp at h;let⟨O,U⟩:=K h;simp only[na,lh,ls];exact⟨O.append_left x,U.append_left x⟩
theorem FU{E H:LH}{S:List Seg}(K:An E H S)(h:S[j]?=some seg):Ah E H S=mk E H ((S.set j []).flatten++seg)/\Nd E H ((S.set j []).flatten++seg):=
 ⟨C3 K (Cl (seg':=seg) h).1,Nd.perm K (Cl (seg':=seg) h).1⟩
theorem HH{E H:LH}{S:List Seg}(h:S[j]?=some seg)(K:Nd E H ((S.set j []).flatten++seg')):mk E H ((S.set j []).flatten++seg')=Ah E H (S.set j seg')/\An E H (S.set j seg'):=
 ⟨C3 K (Cl h).2.symm,Nd.perm K (Cl h).2.symm⟩
theorem Gi(S:List Seg)(seg:Seg):(S++ [seg]).flatten=S.flatten++seg:=by simp
theorem EU{E H:LH}{S:List Seg}(K:Nd E H (S.flatten++seg)):mk E H (S.flatten++seg)=Ah E H (S++ [seg])/\An E H (S++ [seg]):=by
 unfold Ah An;rw[Gi];exact⟨V,K⟩
theorem Ef{E H:LH}{S:List Seg}{i bk:Nat}{o:Obj}(K:An E H S)(O:S[j]?=some seg)(hi:seg[i]?=some (bk,o)):(Ah E H S).get bk=some o:=by
 have hm:(bk,o)∈S.flatten:=mt.2 ⟨seg,ll O,ll hi⟩;let⟨Y,U⟩:=K.mem hm;exact Mb K U
variable{off:Nat}
theorem Be{E H:LH}{S:List Seg}{bk:Nat}{c:Av_}{e:TypeId}{f:Nat×Nat}{v:Value}(K:An E H S)(O:S[j]?=some ((bk,.cells c e f)::seg))(U:c[off]?=some v):(Ah E H S).cell? ⟨bk,off,none⟩=some v:=by
 unfold St.cell?;rw[Ef (i:=0) K O rfl];exact U
theorem S7{E H:LH}{S:List Seg}{bk:Nat}{c:Av_}{e:TypeId}{f:Nat×Nat}{vs:Lv_}(K:An E H S)(O:S[j]?=some ((bk,.cells c e f)::seg))(U:∀i v,vs[i]?=some v->c[off+i]?=some v):∀i v,vs[i]?=some v->(Ah E H S).cell? (Addr.add ⟨bk,off,none⟩ i)=some v:=λi v hi=>by
 rw[CV rfl];exact Be K O (U i v hi)
def OL{α:Type}(e:TypeId)(p:Rp α)(E:LH)(a:Option Addr)(c:Nat)(seg:Seg)(xs:List α):Prop:=
 ∃wss:List (Lv_),GS e p.n a xs.length c seg wss.flatten/\wss.length=xs.length/\∀(i:Nat) x ws,xs[i]?=some x->wss[i]?=some ws->p.r E ws x
theorem OL.Ad{e:TypeId}{p:Rp α}{E E':LH}{a:Option Addr}{xs:List α}(h:OL e p E a c seg xs)(hle:Le E E'):OL e p E' a c seg xs:=
 let ⟨wss,K,O,U⟩:=h;⟨wss,K,O,λi x ws Y hw=>p.Ad hle (U i x ws Y hw)⟩
theorem OL.nil{e:TypeId}{p:Rp α}{E:LH}:OL e p E none 0 [] []:=⟨[],GS.nil,V,λi x ws K=>by simp at K⟩
variable{wss:List (Lv_)}
theorem Ic{p:Rp α}{E:LH}{xs:List α}(K:wss.length=xs.length)(h:∀(i:Nat) x ws,xs[i]?=some x->wss[i]?=some ws->p.r E ws x):∀ws∈wss,ws.length=p.n:=λws hw=>by
 let⟨i,hi⟩:=lw.1 hw
 have O:i<xs.length:=by rw[← K];exact(d0.1 hi).1
 exact p.len (h i _ ws (d3 O) hi)
theorem I5{α:Type}{n:Nat}:∀{wss:List (List α)},(∀ws∈wss,ws.length=n)->∀{i:Nat}{ws:List α},wss[i]?=some ws->∀j w,ws[j]?=some w->wss.flatten[i*n+j]?=some w
 | [],_,_,_,h,_,_,_=>by simp at h
 | us::wss,O,0,ws,h,j,w,K=>by
  simp at h;subst h
  have:j<us.length:=(d0.1 K).1
  simp only[lh,mC,mD]
  rw[lg this];exact K
 | us::wss,O,i+1,ws,h,j,w,K=>by
  simp at h
  have hu:us.length=n:=O us (by simp)
  simp only[lh]
  rw[k8 (by rw[hu,lU];omega)]
  have e:(i+1)*n+j - us.length=i*n+j:=by rw[hu,lU];omega
  rw[e];exact I5 (λws hw=>O ws (lc _ hw)) h j w K
variable {ρ:Operand->Value}{z:Operand}{kd':IntKind}{m':Int}
variable{r:Int}{K:Array (Nat×Operand)}
section
variable {x:Operand}{v:Value}{m:Int}{a b:Nat}
theorem Pd{a:Nat}:IntKind.u64.wrap (a:Int)=((a%2^64:Nat):Int):=by
 simp only[IntKind.wrap,IntKind.bits,IntKind.signed];simp
theorem V8(K:ρ x=.int .u64 (a:Int))(O:ρ y=.int .u64 (b:Int)):Yl P ⟨d,.binOp .add t x y u,ty,p,af,g⟩ ρ s (.int .u64 (((a+b)%2^64:Nat):Int)):=by
 have h:=Yl.add (P:=P) (s:=s) (d:=d) (t:=t) (u:=u) (ty:=ty) (p:=p) (af:=af) (g:=g) K O;rw[show((a:Int)+(b:Int))=((a+b:Nat):Int) by omega,Pd] at h;exact h
theorem MC(K:ρ x=.int .u64 (a:Int))(O:ρ y=.int .u64 (b:Int)):Yl P ⟨d,.binOp .mul t x y u,ty,p,af,g⟩ ρ s (.int .u64 (((a*b)%2^64:Nat):Int)):=by
 have h:=Yl.mul (P:=P) (s:=s) (d:=d) (t:=t) (u:=u) (ty:=ty) (p:=p) (af:=af) (g:=g) K O;rw[show((a:Int)*(b:Int))=((a*b:Nat):Int) by rw[Int.natCast_mul],Pd] at h;exact h
theorem MB(K:ρ x=.int .u64 (a:Int))(O:ρ y=.int .u64 (b:Int)):Yl P ⟨d,.binOp .xor t x y u,ty,p,af,g⟩ ρ s (.int .u64 (((a ^^^ b)%2^64:Nat):Int)):=by
 have h:=Yl.xor (P:=P) (s:=s) (d:=d) (t:=t) (u:=u) (ty:=ty) (p:=p) (af:=af) (g:=g) K O;have e:(BitVec.ofInt IntKind.u64.bits (a:Int) ^^^ BitVec.ofInt IntKind.u64.bits (b:Int)).toNat=(a ^^^ b)%2^64:=by
  rw[Nat.xor_mod_two_pow];rw[od,od];show(BitVec.ofNat 64 a ^^^ BitVec.ofNat 64 b).toNat=_;rw[BitVec.toNat_xor,BitVec.toNat_ofNat,BitVec.toNat_ofNat]
 rw[e,Pd,Nat.mod_mod] at h;exact h
theorem Vx(K:ρ x=.int .u64 (a:Int))(O:ρ y=.int .u64 (b:Int))(U:b≠0):Yl P ⟨d,.binOp .rem t x y u,ty,p,af,g⟩ ρ s (.int .u64 ((a%b:Nat):Int)):=by
 have h:=Yl.rem (P:=P) (s:=s) (d:=d) (t:=t) (u:=u) (ty:=ty) (p:=p) (af:=af) (g:=g) K O (by omega);rw[show(a:Int).tmod (b:Int)=((a%b:Nat):Int) from rfl] at h;exact h
theorem Ka(c:Nat)(K:ρ x=.int .u64 (a:Int))(O:ρ y=.int .u64 (c:Int))(U:c<=64):Yl P ⟨d,.binOp .shr t x y u,ty,p,af,g⟩ ρ s (.int .u64 ((a>>>c:Nat):Int)):=by
 have h:=Yl.shr (P:=P) (s:=s) (d:=d) (t:=t) (u:=u) (ty:=ty) (p:=p) (af:=af) (g:=g) K O (by omega);have e:min (c:Int).toNat IntKind.u64.bits=c:=by simp[IntKind.bits];omega
 rw[e,nI _ (Int.pow_nonneg (by decide))] at h;have e2:(a:Int)/2^c=((a>>>c:Nat):Int):=by rw[Nat.shiftRight_eq_div_pow,Int.natCast_ediv];rfl
 rw[e2] at h;exact h
def CK(m:Int):Nat:=(m%2^64).toNat
def LO(a:Nat):Int:=IntKind.i64.wrap (a:Int)
theorem Yl.CK(K:P.underlying t=some (.int .i64))(hu:P.underlying u=some (.int .u64))(O:ρ x=iV m):Yl P ⟨d,.convert t u x,ty,p,af,g⟩ ρ s (.int .u64 ((CK m:Nat):Int)):=by
 have h:=Ek (P:=P) (s:=s) (d:=d) (ty:=ty) (p:=p) (af:=af) (g:=g) K hu O
 have e:IntKind.u64.wrap m=((Pal.CK m:Nat):Int):=by
  unfold Pal.CK;simp only[IntKind.wrap,IntKind.bits,IntKind.signed];simp;omega
 rw[e] at h;exact h
theorem XD(K:P.underlying t=some (.int .u64))(hu:P.underlying u=some (.int .i64))(O:ρ x=.int .u64 (a:Int)):Yl P ⟨d,.convert t u x,ty,p,af,g⟩ ρ s (iV (LO a)):=
 Ek (P:=P) (s:=s) (d:=d) (ty:=ty) (p:=p) (af:=af) (g:=g) K hu O
theorem Jc(K:ρ x=iV m)(O:ρ y=iV m')(h:AG (m+m')=some r):Yl P ⟨d,.binOp .add t x y u,ty,p,af,g⟩ ρ s (iV r):=by
 obtain⟨rfl,hb⟩:=JX h;exact VL K O hb
theorem GK(K:ρ x=iV m)(O:ρ y=iV m')(h:AG (m - m')=some r):Yl P ⟨d,.binOp .sub t x y u,ty,p,af,g⟩ ρ s (iV r):=by
 obtain⟨rfl,hb⟩:=JX h;exact VM K O hb
theorem QU(K:ρ x=iV m)(O:ρ y=iV m')(h:AG (m*m')=some r):Yl P ⟨d,.binOp .mul t x y u,ty,p,af,g⟩ ρ s (iV r):=by
 obtain⟨rfl,hb⟩:=JX h;exact Wl K O hb
theorem Ha(K:ρ x=iV m)(h:AG (-m)=some r):Yl P ⟨d,.unOp .neg t x,ty,p,af,g⟩ ρ s (iV r):=by
 obtain⟨rfl,hb⟩:=JX h;exact Wh K hb
theorem NZ:execOp ρ ⟨d,.build t K,ty,p,af,g⟩=(do pure (Next.value (← Instr.build t (K.map λ(j,x)=>(j,ρ x))))):=by
 simp only[execOp]
theorem Yl.build{z:Value}{vs:List (Nat×Value)}{places:Array (Nat×Nat)}{cells:Av_}(Z:zeroOf P t=some z)(aa:P.underlying t=some (.struct O))(ab:O.toList.mapM (λf=>(A5 P f.type).map λn=>(f.offset,n))=some places.toList)
  (ae:K.toList.map (λ(j,x)=>(j,ρ x))=vs) (ag:Instr.fill (places[·]?) z.cells vs=some cells):Yl P ⟨d,.build t K,ty,p,af,g⟩ ρ s (.agg cells):=by
 refine EJ NZ ?_;unfold Instr.build;refine Av (x:=zeroValue t) _ (Fh Z ?_);refine Av _ _ (B6 aa ?_);simp only;have key:∀(l:List Field) (acc:List (Nat×Nat)) {Q:List (Nat×Nat)->St->Prop}{X:Halt->St->Prop}(K:List (Nat×Nat)),l.mapM (λf=>(A5 P f.type).map λn=>(f.offset,n))=some K->Q (acc.reverse++K) s->lp P (List.mapM.loop (m:=Sem) (λf=>do pure (f.offset,← Go.sizeOf f.type)) l acc) s Q X:=by
  intro l
  induction l with
  | nil=>
   intro acc Q X K h k;simp at h;subst h;simp only[lf] at k;exact k
  | cons f l ah=>
   intro acc Q X K h k;simp only[nC,bind] at h;cases U:A5 P f.type with
   | none=>rw[U] at h;simp at h
   | some n=>
    rw[U] at h;simp only[lW,Option.bind_some] at h;let⟨ai,aj,Y⟩:=bind_some h;simp at Y;subst Y;have:=ah ((f.offset,n)::acc) (Q:=Q) (X:=X) ai aj (by simpa using k);simp only[List.mapM.loop];exact Av _ _ (Av (x:=Go.sizeOf f.type) _ (DO U this))
 have e:(K.map λ(j,x)=>(j,ρ x)).toList=vs:=by rw[← ae,nq]
 refine Av _ _ ?_;rw[my];refine Av (x:=List.mapM.loop (m:=Sem) (λf=>do pure (f.offset,← Go.sizeOf f.type)) O.toList []) (f:=λr=>pure r.toArray) (key O.toList [] places.toList ab ?_)
 simp only[List.reverse_nil,lx,lp,pure];rw[e,ag];exact⟨V,V⟩
end
variable {S:List Seg}
variable{todo:Li_}{d1:Tmp}{ats:Array TypeId}{g':On_}{fn:Func}{R:Value->LH->Seg->Prop}{args:Array Operand}{S':List Seg}
section
variable {b:Frame}{n:Nat}
variable {x:Operand}{v:Value}{i:Nat}
theorem JS.box(O:ops[i]?=some ⟨d,.box e x,ty,p,af,g⟩)(hw:AQ L ops ⟨d,.box e x,ty,p,af,g⟩=some true)(U:BH b n ⟨d,.box e x,ty,p,af,g⟩=true)(Y:An E H S)(Z:ev L x=some v)
  (h:∀r,An E H (S++ [[(r,.cells v.cells e (0,0))]])->JL J Q b n (Az L d (.pointer (some ⟨r,0,none⟩))) ds (.inRegion ops rest::k) cs (Ah E H (S++ [[(r,.cells v.cells e (0,0))]]))):
  JL J Q b n L ds (.inRegion ops (i::rest)::k) cs (Ah E H S):=
 JL.box O hw U Y Z λr K=>by rw[(EU K).1];exact h r (EU K).2
theorem JS.alloc{z:Value}(O:ops[i]?=some ⟨d,.alloc e,ty,p,af,g⟩)(hw:AQ L ops ⟨d,.alloc e,ty,p,af,g⟩=some true)(U:BH b n ⟨d,.alloc e,ty,p,af,g⟩=true)(Y:An E H S)(Z:zeroOf P e=some z)
  (h:∀r,An E H (S++ [[(r,.cells z.cells e (0,0))]])->JL J Q b n (Az L d (.pointer (some ⟨r,0,none⟩))) ds (.inRegion ops rest::k) cs (Ah E H (S++ [[(r,.cells z.cells e (0,0))]]))):
  JL J Q b n L ds (.inRegion ops (i::rest)::k) cs (Ah E H S):=
 JL.alloc O hw U Y Z λr K=>by rw[(EU K).1];exact h r (EU K).2
theorem JS.store{bk:Nat}{c:Av_}(j:Nat)(U:ops[i]?=some ⟨d,.store t x y,ty,p,af,g⟩)(hw:AQ L ops ⟨d,.store t x y,ty,p,af,g⟩=some true)(Y:BH b n ⟨d,.store t x y,ty,p,af,g⟩=true)(Z:An E H S)
  (aa:ev L x=some (.pointer (some ⟨bk,off,none⟩))) (ab:ev L y=some v) (ae:A5 P t=some v.cells.size) (ag:∀u∈v.cells.toList,BX u=true) (K:S[j]?=some [(bk,.cells c e (0,0))]) (hle:off+v.cells.size<=c.size)
  (h:An E H (S.set j [(bk,.cells (Bx c off v.cells.toList) e (0,0))])->JL J Q b n (Az L d undef) ds (.inRegion ops rest::k) cs (Ah E H (S.set j [(bk,.cells (Bx c off v.cells.toList) e (0,0))]))):
  JL J Q b n L ds (.inRegion ops (i::rest)::k) cs (Ah E H S):=by
 let⟨ah,ai⟩:=FU Z K;rw[ah];refine JL.store (S.set j []).flatten.length U hw Y ai aa ab ae ag (c:=c) (e:=e) (by simp) hle λO=>?_;have aj:((S.set j []).flatten++ [(bk,Obj.cells c e (0,0))]).set (S.set j []).flatten.length (bk,.cells (Bx c off v.cells.toList) e (0,0))=(S.set j []).flatten++ [(bk,.cells (Bx c off v.cells.toList) e (0,0))]:=HE _ _ _ _;rw[aj] at O ⊢;let⟨ak,al⟩:=HH K O;rw[ak];exact h al
theorem JS.drop(j:Nat)(Y:An E H S)(K:S[j]?=some seg)(h:An E H (S.set j [])->JL J Q b n L ds todo cs (Ah E H (S.set j []))):JL J Q b n L ds todo cs (Ah E H S):=by
 let⟨Z,O⟩:=FU Y K;rw[Z];have aa:Nd E H ((S.set j []).flatten++ []):=by rw[lf];exact Iy.Nd.left O
 let⟨U,ab⟩:=HH (seg':=[]) K aa;refine JL.drop (S.set j []).flatten (λq ae=>lw.1 (ma _ ae)) O ?_;have ag:(S.set j []).flatten++ []=(S.set j []).flatten:=lf _;rw[ag] at U;rw[U];exact h ab
theorem Cw{bk:Nat}{c:Av_}{f:Nat×Nat}(j:Nat)(O:An E H S)(U:S[j]?=some [(bk,.cells c e f)])
  (h:∀E',Le E E'->At E' bk 0 c.toList->An E' H (S.set j [])->JL J Q b n L ds todo cs (Ah E' H (S.set j []))):JL J Q b n L ds todo cs (Ah E H S):=by
 let⟨Y,Z⟩:=FU O U;rw[Y];have aa:((S.set j []).flatten++ [(bk,Obj.cells c e f)])[(S.set j []).flatten.length]?=some (bk,Obj.cells c e f):=by simp
 refine JL.freeze (S.set j []).flatten.length Z aa λE' hle ab K=>?_;have ae:((S.set j []).flatten++ [(bk,Obj.cells c e f)]).eraseIdx (S.set j []).flatten.length=(S.set j []).flatten:=by rw[mM (la _)];simp
 rw[ae] at K ⊢;exact h E' hle ⟨_,_,_,ab,λi w hi=>by simpa using hi⟩ K
theorem Cj{pp:Rp α}{a:Option Addr}{xs:List α}(j:Nat)(U:OL e pp E a c seg xs)(ag:An E H S)(ah:S[j]?=some seg)
  (h:∀E',Le E E'->Ak pp E' a c xs->An E' H (S.set j [])->JL J Q b n L ds todo cs (Ah E' H (S.set j []))):JL J Q b n L ds todo cs (Ah E H S):=by
 obtain⟨wss,U,aa,ab⟩:=U;have ai:∀ad:Addr,a=some ad->ad.spot=none:=λad K=>by
  rcases U with⟨O,_⟩ | ⟨bk,f,O,_⟩;rw[O] at K;cases K;rw[O] at K;cases K;rfl
 let⟨O,aj⟩:=FU ag ah;rw[O];refine SN U aj λE' hle ak al=>h E' hle ?_ al;obtain⟨am,an,Y,ao,av,Z⟩:=ak;obtain⟨rfl,-,rfl⟩:a=am/\xs.length=xs.length/\c=an:=by
  simp only[Value.slice.injEq] at Y;exact⟨Y.1,V,Y.2.2⟩
 refine⟨ao,?_⟩;rcases Z with Z | ⟨bk,off,f,ap,fr,aq,g2,ar⟩;exact .inl ⟨lD Z,λad K=>.inl (ai ad K)⟩
 .refine .inr ⟨bk,off,aq,λi x ae=>?_⟩;have au:i<wss.length:=by rw[aa];exact(d0.1 ae).1
  have hw:=d3 au;refine⟨wss[i],pp.Ad hle (ab i x _ ae hw),f,ap,fr,g2,λm w hm=>?_⟩;rw[mc];exact ar _ w (I5 (Ic aa ab) hw m w hm)
theorem SK{pp:Rp α}{xs:List α}{x:α}{ws:Lv_}(O:wss.length=xs.length)(h:∀(i:Nat) x ws,xs[i]?=some x->wss[i]?=some ws->pp.r E ws x)(U:pp.r E ws x):
  ∀(i:Nat) y us,(xs++ [x])[i]?=some y->(wss++ [ws])[i]?=some us->pp.r E us y:=by
 intro i y us K hu;rcases lb i xs.length with hi | hi;rw[lg hi] at K;rw[lg (by omega)] at hu;exact h i y us K hu
 .rw [k8 hi] at K;rw[k8 (by omega),O] at hu;cases hm:i - xs.length with
  | zero=>rw[hm] at K hu;simp at K hu;subst K hu;exact U
  | succ m=>rw[hm] at K;simp at K
theorem Tb{pp:Rp α}{t1 t2:TypeId}{id:Nat}{a:Option Addr}{xs:List α}{xv:α}{ag:Nat}{Y:TypeId}{Z:String}{aa:Ae_}{z:Value}(j:Nat)
  (aj:ops[i]?=some ⟨some d1,.buildSlice t2 1 #[(0,y)],Y,Z,aa,g'⟩) (hw:AQ L ops ⟨some d1,.buildSlice t2 1 #[(0,y)],Y,Z,aa,g'⟩=some true) (ak:BH b n ⟨some d1,.buildSlice t2 1 #[(0,y)],Y,Z,aa,g'⟩=true)
  (al:ops[ag]?=some ⟨d,.call ⟨.builtin .append,#[x,.tmp d1],ats⟩,ty,p,af,g⟩) (am:∀w,AQ (Az L (some d1) w) ops ⟨d,.call ⟨.builtin .append,#[x,.tmp d1],ats⟩,ty,p,af,g⟩=some true) (an:BH b n ⟨d,.call ⟨.builtin .append,#[x,.tmp d1],ats⟩,ty,p,af,g⟩=true)
  (ao:∀w,ev (Az L (some d1) w) x=some (.slice a xs.length c)) (ap:ev L y=some v) (aq:ats[0]?=some t) (ar:ats[1]?=some t1) (au:P.underlying t=some (.slice e)) (av:P.underlying t1=some (.slice e)) (aw:P.underlying t2=some (.slice e)) (ay:A5 P e=some pp.n) (hb:Ew P e=some id) (az:zeroOf P e=some z) (aA:z.cells.size=pp.n)
  (aB:0<id) (aC:id<=127) (aD:0<pp.n) (aE:pp.n<=64) (aF:xs.length+1<=2^40) (ab:OL e pp E a c seg xs) (ae:pp.r E v.cells.toList xv) (aG:An E H S) (ah:S[j]?=some seg)
  (h:∀w K O seg',OL e pp E K O seg' (xs++ [xv])->An E H (S.set j seg')->JL J Q b n (Az (Az L (some d1) w) d (.slice K (xs++ [xv]).length O)) ds (.inRegion ops rest::k) cs (Ah E H (S.set j seg'))):
  JL J Q b n L ds (.inRegion ops (i::ag::rest)::k) cs (Ah E H S):=by
 obtain⟨wss,ab,ai,aH⟩:=ab;let⟨aI,aJ⟩:=FU aG ah;rw[aI];have aK:v.cells.size=pp.n:=by simpa using pp.len ae
 refine S2 aj hw ak al am an ao ap aq ar au av aw ay hb az aA aB aC aK aD aE aF (pp.one ae) ab aJ λw K O aL aM aN=>?_;let⟨aO,aP⟩:=HH ah aN;rw[aO];have hlen:(xs++ [xv]).length=xs.length+1:=by simp
 have:=h w K O aL ⟨wss++ [v.cells.toList],by rw[hlen,mf];simpa using aM,by simp[ai],SK ai aH ae⟩ aP;rw[hlen] at this;exact this
theorem WH{pp:Rp α}{a:Option Addr}{xs:List α}{xv:α}{m:Int}(O:Ak pp E a c xs)(hm:ix xs m=some xv)
  (U:ops[i]?=some ⟨d,.indexAddr t x y,ty,p,af,g⟩) (hw:AQ L ops ⟨d,.indexAddr t x y,ty,p,af,g⟩=some true) (Y:BH b n ⟨d,.indexAddr t x y,ty,p,af,g⟩=true)
  (Z:ev L x=some (.slice a xs.length c)) (aa:ev L y=some (.int kd m)) (ab:P.underlying t=some (.slice e)) (ae:A5 P e=some pp.n)
  (h:∀bk o ws,pp.r E ws xv->At E bk o ws->JL J Q b n (Az L d (.pointer (some ⟨bk,o,none⟩))) ds (.inRegion ops rest::k) cs (Ah E H S)):
  JL J Q b n L ds (.inRegion ops (i::rest)::k) cs (Ah E H S):=by
 obtain⟨m,rfl,hm⟩:=Ig hm;have ag:m<xs.length:=(d0.1 hm).1;obtain⟨ak,⟨rfl,_⟩ | ⟨bk,off,rfl,ah⟩⟩:=O;simp at ag
 let⟨ws,ai,aj⟩:=ah m xv hm;refine Aj (v:=.pointer (some ⟨bk,off+m*pp.n,none⟩)) U hw Y (λρ K=>?_) (h bk _ ws ai aj);have:=Mh (P:=P) (s:=Ah E H S) (d:=d) (ty:=ty) (p:=p) (af:=af) (g:=g) ab ae (K x _ Z) (K y _ aa) ⟨by omega,by omega⟩;rw[CV rfl] at this;simpa using this
theorem At.O2{bk o:Nat}{ws:Lv_}(h:At E bk o ws)(K:ws[j]?=some w):(Ah E H S).cell? ⟨bk,o+j,none⟩=some w:=h.cell K
theorem At.MW{bk o:Nat}{ws:Lv_}(h:At E bk o ws):∀j v,ws[j]?=some v->(Ah E H S).cell? (Addr.add ⟨bk,o,none⟩ j)=some v:=h.cells
theorem BF(I:Env->St->Prop){c:Code}(K:∀L s,I L s->JL J Q b n L ds todo cs s)(h:(∀L s,I L s->JL J Q b n L ds todo cs s)->JL J Q b n L ds (.code c::todo) cs s):JL J Q b n L ds (.code c::todo) cs s:=h K
theorem GH{K:List Nat}(l:List Nat)(I:Env->St->Prop)(O:∀L s,I L s->JL J Q b n L ds (.inRegion ops l::todo) cs s)(h:(∀L s,I L s->JL J Q b n L ds (.inRegion ops l::todo) cs s)->JL J Q b n L ds (.inRegion ops K::todo) cs s):JL J Q b n L ds (.inRegion ops K::todo) cs s:=h O
theorem Qq{c:Code}{body:β->Option (Bl β A)}{f:Nat}{O:β}{a:A}(U:iter body f O=some a)(I:Env->St->β->Prop)(Z:I L s O)
  (round:∀L s x,I L s x->(∀Y,body x=some (.done Y)->Y=a)->(∃st,body x=some st)->(∀L' s' x',I L' s' x'->body x=some (.more x')->JL J Q b n L' ds (.inLoop c::k) cs s')->JL J Q b n L ds (.code c:: .inLoop c::k) cs s):
  JL J Q b n L ds (.code (.loop c)::k) cs s:=by
 refine JY ?_
 induction f generalizing L s O with
 | zero=>cases U
 | succ f aa=>
  refine round L s O Z (λY h=>N1 U h) (N4 U) λL' s' x' ab hb=>JL.again (aa (N2 U hb) ab)
def AO(J:Judge P)(f:FuncId)(args:Lv_)(E:LH)(B:Seg)(R:Value->LH->Seg->Prop):Prop:=
 ∀H,Nd E H B->DK J f args.toArray (mk E H B) (λv s'=>∃E' B',Le E E'/\R v E' B'/\Nd E' H B'/\s'=mk E' H B')
theorem AO.enter{f:FuncId}{c:Code}{vs:Lv_}{B:Seg}(O:P.funcs[f]?=some fn)(hb:fn.body=some c)(U:vs.length<=fn.ntmps)
  (h:∀(Q:Gs_) (K:Frame) (cs:Lf_) (H:LH),An E H [B]->(∀v E' S' B',Le E E'->S'.flatten=B'->R v E' B'->An E' H S'->J.ok Q (G (K.finish v) cs) (Ah E' H S'))->JL J Q (base f) fn.ntmps (EL 0 vs) [] [.code c] (K::cs) (Ah E H [B])):AO J f vs E B R:=λH Y=>
 DK.enter O hb U λQ K cs Z=>by
  have aa:mk E H B=Ah E H [B]:=by unfold Ah;simp
  rw[aa];exact h Q K cs H (by unfold An;simpa using Y) λv E' S' B' hle ab ae ag=>by
   subst ab;exact Z v _ ⟨E',S'.flatten,hle,ae,ag,rfl⟩
theorem AO.Ad{f:FuncId}{vs:Lv_}{B:Seg}{K:Value->LH->Seg->Prop}(h:AO J f vs E B R)(U:∀v E' B',Le E E'->R v E' B'->K v E' B'):AO J f vs E B K:=λH Y=>
 (h H Y).Ad λv s' ⟨E',B',O,Z,aa,ab⟩=>⟨E',B',O,U v E' B' O Z,aa,ab⟩
theorem DC{H:LH}:∀{A B:List (Nat×Obj)},AM (A++B) H=AM A (AM B H)
 | [],_=>rfl
 | (c,o)::A,B=>by
  funext x
  simp only[lX,AM]
  split;rfl;rw[DC]
theorem KS{H:LH}{x:Nat}:∀{B:List (Nat×Obj)},(∀p∈B,p.1≠x)->AM B H x=H x
 | [],_=>rfl
 | (c,u)::B,K=>by
  have O:x≠c:=λe=>K (c,u) (by simp) e.symm
  simp only[AM,d7 O]
  exact KS λp U=>K p (lc _ U)
theorem Nd.front{A B:List (Nat×Obj)}(h:Nd E H (A++B)):Nd E (AM B H) A:=by
 rw[Nd.iff] at h ⊢;obtain⟨K,U⟩:=h;rw[lL,lG] at K;refine⟨K.1,λq O=>⟨(U q (ma _ O)).1,?_⟩⟩;rw[KS λr Y e=>K.2.2 q.1 (mG O) r.1 (mG Y) e.symm];exact(U q (ma _ O)).2
theorem Nd.glue{A B:List (Nat×Obj)}(h:Nd E (AM B H) A)(U:Nd E H B):Nd E H (A++B):=by
 have Y:=U;rw[Nd.iff] at h U ⊢;rw[lL,lG];have key:∀q∈A,∀r∈B,q.1≠r.1:=λq K r O e=>by
  have:=(h.2 q K).2;rw[e] at this;let⟨i,hi⟩:=Y.mem (b:=r.1) (o:=r.2) O;rw[H9 Y hi] at this;cases this
 refine⟨⟨h.1,U.1,λx Z y aa e=>?_⟩,λq K=>?_⟩;obtain⟨q,K,rfl⟩:=mr.1 Z;obtain⟨r,O,rfl⟩:=mr.1 aa;exact key q K r O e
 .rcases lm.1 K with K | K
  .refine⟨(h.2 q K).1,?_⟩;have:=(h.2 q K).2
   rwa[KS λr O e=>key q K r O e.symm] at this
  .exact U.2 q K
theorem Qr{f:FuncId}{vs:Lv_}(j:Nat)
  (ab:AO J f vs E seg R) (ae:ops[i]?=some ⟨d,.call ⟨.value (.func f),args,ats⟩,ty,p,af,g⟩) (hw:AQ L ops ⟨d,.call ⟨.value (.func f),args,ats⟩,ty,p,af,g⟩=some true) (ag:((b.kind != .early)&&A6 n d)=true) (hb:Cz P f=true)
  (ah:evs L args.toList=some vs) (K:An E H S) (O:S[j]?=some seg) (ai:∀v E' seg',Le E E'->R v E' seg'->An E' H (S.set j seg')->JL J Q b n (Az L d v) ds (.inRegion ops rest::k) cs (Ah E' H (S.set j seg'))):
  JL J Q b n L ds (.inRegion ops (i::rest)::k) cs (Ah E H S):=by
 have U:S.flatten.Perm (seg++(S.set j []).flatten):=(Cl (seg':=seg) O).1.trans f6;have Y:Nd E H (seg++(S.set j []).flatten):=Nd.perm K U;have aj:Ah E H S=mk E (AM (S.set j []).flatten H) seg:=by
  rw[show Ah E H S=mk E H S.flatten from rfl,C3 K U];unfold mk;rw[DC]
 rw[aj];refine Vb ae hw ag hb ah (ab _ (Nd.front Y)) ?_;rintro v s' ⟨E',B',hle,ak,al,rfl⟩;have e2:mk E' (AM (S.set j []).flatten H) B'=mk E' H (B'++(S.set j []).flatten):=by unfold mk;rw[DC]
 have am:Nd E H (S.set j []).flatten:=by
  have:=Y;rw[Nd.iff] at this ⊢;rw[lL,lG] at this;exact⟨this.1.2.1,λq an=>this.2 q (lI _ an)⟩
 refine MJ V λ⟨w,ao⟩=>?_;have ap:Nd E' H (S.set j []).flatten:=am.grow λx aq=>by
  have ar:=ao.d x aq;have au:AM B' (AM (S.set j []).flatten H) x=none:=ar;exact(FF au).1
 have Z:Nd E' H (B'++(S.set j []).flatten):=Nd.glue al ap;rw[e2];have aa:(B'++(S.set j []).flatten).Perm (S.set j B').flatten:=f6.trans (Cl O).2.symm;rw[C3 Z aa];exact ai v E' B' hle ak (Nd.perm Z aa)
theorem JS.call{f:FuncId}{vs:Lv_}
  (U:AO J f vs E [] R) (Y:ops[i]?=some ⟨d,.call ⟨.value (.func f),args,ats⟩,ty,p,af,g⟩) (hw:AQ L ops ⟨d,.call ⟨.value (.func f),args,ats⟩,ty,p,af,g⟩=some true) (Z:((b.kind != .early)&&A6 n d)=true) (hb:Cz P f=true)
  (aa:evs L args.toList=some vs) (K:An E H S) (ab:∀v E' seg',Le E E'->R v E' seg'->An E' H (S++ [seg'])->JL J Q b n (Az L d v) ds (.inRegion ops rest::k) cs (Ah E' H (S++ [seg']))):
  JL J Q b n L ds (.inRegion ops (i::rest)::k) cs (Ah E H S):=by
 have ae:Ah E H S=Ah E H (S++ [[]]):=by unfold Ah;simp
 rw[ae];refine Qr S.length U Y hw Z hb aa (by unfold An at K ⊢;rw[Gi,lf];exact K) (by simp) λv E' seg' hle ag O=>?_;have e2:(S++ [[]]).set S.length seg'=S++ [seg']:=HE _ _ _ _;rw[e2] at O ⊢;exact ab v E' seg' hle ag O
theorem Dt(K:S'.flatten=S.flatten)(O:An E H S)(h:An E H S'->JL J Q b n L ds todo cs (Ah E H S')):JL J Q b n L ds todo cs (Ah E H S):=by
 unfold Ah An at*;rw[K] at h;exact h O
end
def Ld(P:Program)(t:TypeId)(a:Addr)(s:St)(v:Value):Prop:=lp P (loadVar t a) s (λu s'=>u=v/\s'=s) (λ_ _=>False)
theorem Ld.one{P:Program}{t:TypeId}{a:Addr}{s:St}{v:Value}(K:C8 P t=some false)(h:s.cell? a=some v):Ld P t a s v:=PG K h ⟨V,V⟩
theorem Ld.many{P:Program}{t:TypeId}{a:Addr}{s:St}{vs:Lv_}(K:C8 P t=some true)(O:A5 P t=some vs.length)(h:∀j v,vs[j]?=some v->s.cell? (a.add j)=some v):Ld P t a s (.agg vs.toArray):=PE K O h ⟨V,V⟩
def RV(P:Program)(L:Env)(s:St):List ResultVar->Lv_->Prop
 | [],[]=>True
 | .tmp t::rs,v::vs=>look L t=some v/\RV P L s rs vs
 | .cell a t::rs,v::vs=>(∃ad,look L a=some (.pointer (some ad))/\Ld P t ad s v)/\RV P L s rs vs
 | _,_=>False
def MK:Lv_->Value
 | [v]=>v
 | vs=>.tuple vs.toArray
theorem S6(vs:Lv_):(if h:vs.toArray.size=1 then vs.toArray[0] else Value.tuple vs.toArray)=MK vs:=by
 match vs with
 | []=>rfl
 | [v]=>rfl
 | a::b::c=>simp[MK]
theorem Bq.list{P:Program}{f:FuncId}{n:Nat}{L:Env}{s:St}{rs:List ResultVar}{vs:Lv_}(Z:P.funcs[f]?=some fn)(aa:fn.results.toList=rs)(h:RV P L s rs vs):Bq P f L n s (MK vs):=by
 refine⟨fn,Z,λT U=>?_⟩;unfold results;rw[my,aa];have key:∀(rs:List ResultVar) (acc vs:Lv_) {Q:Lv_->St->Prop}{X:Halt->St->Prop},RV P L s rs vs->Q (acc.reverse++vs) s->lp P (List.mapM.loop (m:=Sem) (λr=>match r with
   | .tmp t=>pure (T.getD t undef)
   | .cell a t=>do loadVar t (← asAddr (T.getD a undef))) rs acc) s Q X:=by
  intro rs
  induction rs with
  | nil=>
   intro acc vs Q X h k;cases vs with
   | nil=>simp only[lf] at k;exact k
   | cons v vs=>cases h
  | cons r rs Y=>
   intro acc vs Q X h k;cases vs with
   | nil=>cases r<;>cases h
   | cons v vs=>
    cases r with
    | tmp t=>
     obtain⟨K,O⟩:=h;have:=U.at_ t v K;simp only[List.mapM.loop];rw[this];exact Y (v::acc) vs O (by simpa using k)
    | cell a t=>
     obtain⟨⟨ad,K,ab⟩,O⟩:=h;have:=U.at_ a _ K;simp only[List.mapM.loop];rw[this];refine Av _ _ (CH _ (show lp P (loadVar t ad) s _ _ from ab) ?_ (λ_ _ h=>h.elim));rintro u s' ⟨rfl,rfl⟩;exact Y (u::acc) vs O (by simpa using k)
 refine Av _ _ (Av (x:=List.mapM.loop (m:=Sem) _ rs []) (f:=λr=>pure r.toArray) ?_);refine key rs [] vs h ?_;simp only[List.reverse_nil,lx,lp,pure];exact⟨S6 vs,trivial⟩
section
variable {g:Goroutine}
theorem CB(j:Nat)(Z:An E H S)(U:S[j]?=some seg)(h:An E H (S.set j [])->J.ok Q g (Ah E H (S.set j []))):J.ok Q g (Ah E H S):=by
 let⟨aa,K⟩:=FU Z U;have ab:Nd E H ((S.set j []).flatten++ []):=by rw[lf];exact Iy.Nd.left K
 let⟨ai,ae⟩:=HH (seg':=[]) U ab;refine J.ghost (s₀:=Ah E H (S.set j [])) ⟨λ_ _ h=>h,λx o ag=>?_,λ_ _ h=>.inl h,V⟩ (h ae);have Y:AM (S.set j []).flatten H x=some o:=ag;show(Ah E H S).H x=some o;rw[aa];show AM ((S.set j []).flatten++seg) H x=some o;rw[show AM ((S.set j []).flatten++seg) H=AM (seg++(S.set j []).flatten) H from KL K f6,DC];by_cases hm:∃p∈seg,p.1=x;exfalso;obtain⟨p,O,e⟩:=hm;have ah:=Nd.front (Nd.perm K f6);have:=((Nd.iff.1 ah).2 p O).2;rw[e,Y] at this;cases this;rw[KS λp O e=>hm ⟨p,O,e⟩];exact Y
end
variable{E0:LH}
section
variable {b:Frame}{n:Nat}
variable {x:Operand}{v:Value}{i:Nat}
theorem PZ{ρ:Operand->Value}{len:Nat}:execOp ρ ⟨d,.buildSlice t len K,ty,p,af,g⟩=(do pure (Next.value (← Instr.buildSlice t len (K.map λ(j,x)=>(j,ρ x))))):=by
 simp only[execOp]
theorem SZ(v:Av_)(off:Nat)(c:Av_):v.zipIdx.foldl (λcs (x,j)=>cs.setIfInBounds (off+j) x) c=Bx c off v.toList:=by
 rw[← Array.foldl_toList,Array.toList_zipIdx];have key:∀(l:Lv_) (st:Nat) (c:Av_),List.foldl (λcs (p:Value×Nat)=>cs.setIfInBounds (off+p.2) p.1) c (l.zipIdx st)=Bx c (off+st) l:=by
  intro l
  induction l with
  | nil=>intro st c;rfl
  | cons x l K=>intro st c;simp only[nR,m6,Bx];rw[K];rfl
 exact key v.toList 0 c
def Kh(place:Nat->Option (Nat×Nat))(cells:Av_):List (Nat×Value)->Option (Av_)
 | []=>some cells
 | (i,v)::rest=>match place i with
  | none=>none
  | some (off,size)=>if v.cells.size=size/\off+v.cells.size<=cells.size then Kh place (Bx cells off v.cells.toList) rest else none
theorem fill_eq{place:Nat->Option (Nat×Nat)}:∀{vs:List (Nat×Value)}{cells:Av_},Instr.fill place cells vs=Kh place cells vs
 | [],_=>rfl
 | (i,v)::rest,cells=>by
  simp only[Instr.fill,Kh]
  cases place i with
  | none=>rfl
  | some q=>
   obtain⟨off,size⟩:=q
   simp only
   by_cases h:v.cells.size=size/\off+v.cells.size<=cells.size;rw[d5 h,d7 (by simp only[l6,mZ,ne_eq];omega),fill_eq,SZ];rw[d7 h,d5 (by simp only[l6,mZ,ne_eq];omega)]
theorem QD{n:Nat}:∀(vs:Lv_) (st:Nat) (cells:Av_),(∀v∈vs,v.cells.size=n)->cells.size=(st+vs.length)*n->
  ∃U,Kh (λi=>some (i*n,n)) cells ((vs.zipIdx st).map λq=>(q.2,q.1))=some U/\U.toList=cells.toList.take (st*n)++(vs.map (·.cells.toList)).flatten
 | [],st,cells,_,K=>⟨cells,rfl,by simp only[n4,lT] at K;simp[← K,me]⟩
 | v::vs,st,cells,Y,K=>by
  have O:=Y v (by simp)
  have hle:st*n+n<=cells.size:=by
   rw[K,lC];have:(st+1)*n<=(st+(vs.length+1))*n:=lz _ (by omega);rw[lU] at this;exact this
  obtain⟨Z,aa,ab⟩:=QD vs (st+1) (Bx cells (st*n) v.cells.toList) (λu hu=>Y u (lc _ hu)) (by rw[L9,K,lC];congr 1;omega);refine⟨Z,?_,?_⟩;simp only[nR,m3,Kh];rw[d5 ⟨O,by omega⟩];exact aa;rw[ab,lU];have:=Py cells (st*n) v.cells.toList (by simp[O];omega);rw[show v.cells.toList.length=n by simp[O]] at this;rw[this];simp
def IS{α:Type}(pp:Rp α)(E:LH):List α->Lv_->Prop
 | [],[]=>True
 | x::xs,v::vs=>pp.r E v.cells.toList x/\IS pp E xs vs
 | _,_=>False
theorem IS.at{E:LH}{α:Type}{pp:Rp α}:∀{xs:List α}{vs:Lv_},IS pp E xs vs->∀(i:Nat) x v,xs[i]?=some x->vs[i]?=some v->pp.r E v.cells.toList x
 | [],_,_,_,_,_,h,_=>by simp at h
 | _::_,[],h,_,_,_,_,_=>h.elim
 | x::xs,v::vs,h,0,y,u,K,hu=>by simp at K hu;subst K hu;exact h.1
 | x::xs,v::vs,h,i+1,y,u,K,hu=>IS.at h.2 i y u (by simpa using K) (by simpa using hu)
theorem OO{ρ:Operand->Value}{K:Next->St->Prop}(al:Ed L ρ){pp:Rp α}{len:Nat}{Z:Array (Nat×Operand)}(vs:Lv_){z:Value}(xs:List α)
  (am:P.underlying t=some (.slice e)) (an:A5 P e=some pp.n) (ao:zeroOf P e=some z) (ap:decide (0<len*pp.n/\len*pp.n<=2^24)=true)
  (aq:Z.toList.mapM (λq=>(ev L q.2).map λv=>(q.1,v))=some ((vs.zipIdx 0).map λq=>(q.2,q.1)))
  (U:vs.length=len) (Y:xs.length=len) (ar:IS pp E0 xs vs) (au:An E H S)
  (h:∀r seg,OL e pp E0 (some ⟨r,0,none⟩) len seg xs->An E H (S++ [seg])->K (.value (.slice (some ⟨r,0,none⟩) xs.length len)) (Ah E H (S++ [seg]))):
  lp P (execOp ρ ⟨d,.buildSlice t len Z,ty,p,af,g⟩) (Ah E H S) K (λ_ _=>False):=by
 have ag:=ar.at;have av:(Z.map λ(j,x)=>(j,ρ x)).toList=(vs.zipIdx 0).map λq=>(q.2,q.1):=by
  have key:∀(l:List (Nat×Operand)) (vs:List (Nat×Value)),l.mapM (λq=>(ev L q.2).map λv=>(q.1,v))=some vs->l.map (λ(j,x)=>(j,ρ x))=vs:=by
   intro l
   induction l with
   | nil=>intro vs h;simp at h;subst h;rfl
   | cons q l aa=>
    intro vs h;simp only[nC,bind] at h;cases ab:ev L q.2 with
    | none=>rw[ab] at h;simp at h
    | some w=>
     rw[ab] at h;simp only[lW,Option.bind_some] at h;let⟨aw,ay,ah⟩:=bind_some h;simp at ah;subst ah;simp[aa aw ay,al _ _ ab]
  rw[nq];exact key _ _ aq
 have ai:∀v∈vs,v.cells.size=pp.n:=λv O=>by
  let⟨i,hi⟩:=lw.1 O;have az:i<xs.length:=by rw[Y,← U];exact(d0.1 hi).1
  simpa using pp.len (ag i _ v (d3 az) hi)
 rw[PZ];refine Av _ _ ?_;unfold Instr.buildSlice;refine Av _ _ (B6 am ?_);refine Av _ _ (DO an ?_);have aC:=nj ap;rw[d7 (by omega),d7 (by omega)];refine Av (x:=zeroValue e) _ (Fh ao ?_);rw[GB,av];obtain⟨cells,aA,ae⟩:=QD vs 0 ((Array.range (len*pp.n)).map (z.cells[· % z.cells.size]!)) ai (by simp[U]);simp only[fill_eq,aA];simp only[mC,List.take_zero,lx] at ae;refine Av _ _ (HA au λr aj=>?_);rw[(EU aj).1];have ak:cells.size=len*pp.n:=by
  have:cells.toList.length=len*pp.n:=by
   rw[ae];have:∀(vs:Lv_),(∀v∈vs,v.cells.size=pp.n)->(vs.map (·.cells.toList)).flatten.length=vs.length*pp.n:=by
    intro vs
    induction vs with
    | nil=>intro _;simp
    | cons v vs aa=>intro h;rw[m3,lh,lr,aa λw hw=>h w (lc _ hw),lC,lU,nU];simp[h v (by simp)]
   rw[this vs ai,U]
  simpa using this
 have:=h r [(r,.cells cells e (0,0))] ⟨vs.map (·.cells.toList),.inr ⟨r,cells,rfl,rfl,ak,by omega,by rw[← ae,me (by simp[ak,Y])]⟩,by simp[U,Y],λi x ws aB hw=>by
  rw[l8] at hw
  cases O:vs[i]? with
  | none=>rw[O] at hw;cases hw
  | some v=>rw[O] at hw;cases hw;exact ag i x v aB O⟩ (EU aj).2
 rw[Y] at this;exact this
theorem FY{pp:Rp α}{len:Nat}(vs:Lv_){z:Value}(xs:List α)
  (O:ops[i]?=some ⟨d,.buildSlice t len K,ty,p,af,g⟩) (hw:AQ L ops ⟨d,.buildSlice t len K,ty,p,af,g⟩=some true) (U:BH b n ⟨d,.buildSlice t len K,ty,p,af,g⟩=true)
  (Y:P.underlying t=some (.slice e)) (Z:A5 P e=some pp.n) (aa:zeroOf P e=some z) (ab:decide (0<len*pp.n/\len*pp.n<=2^24)=true)
  (ae:K.toList.mapM (λq=>(ev L q.2).map λv=>(q.1,v))=some ((vs.zipIdx 0).map λq=>(q.2,q.1)))
  (ag:vs.length=len) (ah:xs.length=len) (ai:IS pp E xs vs) (aj:An E H S)
  (h:∀r seg,OL e pp E (some ⟨r,0,none⟩) len seg xs->An E H (S++ [seg])->JL J Q b n (Az L d (.slice (some ⟨r,0,none⟩) xs.length len)) ds (.inRegion ops rest::k) cs (Ah E H (S++ [seg]))):
  JL J Q b n L ds (.inRegion ops (i::rest)::k) cs (Ah E H S):=by
 exact JL.op O hw U λρ ak=>OO ak vs xs Y Z aa ab ae ag ah ai aj h
theorem OL.get{pp:Rp α}{a:Option Addr}{xs:List α}{m:Nat}{x:α}(Z:OL e pp E a c seg xs)(hm:xs[m]?=some x):
  ∃bk f ws,a=some ⟨bk,0,none⟩/\seg=[(bk,.cells f e (0,0))]/\pp.r E ws x/\(∀j w,ws[j]?=some w->f[m*pp.n+j]?=some w)/\(m+1)*pp.n<=f.size/\
   ∀(x':α) (ws':Lv_),pp.r E ws' x'->OL e pp E a c [(bk,.cells (Bx f (m*pp.n) ws') e (0,0))] (xs.set m x'):=by
 obtain⟨wss,Z,ag,aa⟩:=Z;have ah:m<xs.length:=(d0.1 hm).1;rcases Z with⟨ab,ai,_⟩ | ⟨bk,f,ab,ai,ap,aj,ak⟩;omega
 have hw:wss[m]?=some wss[m]:=d3 (by omega);have al:=Ic ag aa;have hle:(m+1)*pp.n<=xs.length*pp.n:=lz _ ah;have au:xs.length*pp.n<=c*pp.n:=lz _ aj;refine⟨bk,f,wss[m],ab,ai,aa m x _ hm hw,λj w K=>?_,by omega,λx' ws' am=>?_⟩;have:=I5 al hw j w K;rw[ak,l5] at this;split at this;simpa using this;cases this
 .have an:ws'.length=pp.n:=pp.len am;refine⟨wss.set m ws',.inr ⟨bk,_,ab,V,by rw[L9];exact ap,by simpa using aj,?_⟩,by simpa using ag,λi y us Y hu=>?_⟩
  .simp only [l9];have key:∀(wss:List (Lv_)) (m:Nat) (hm:m<wss.length),(∀ws∈wss,ws.length=pp.n)->∀j,(wss.set m ws').flatten[j]?=if m*pp.n<=j/\j<(m+1)*pp.n then ws'[j - m*pp.n]? else wss.flatten[j]? :=by
    intro wss
    induction wss with
    | nil=>intro m hm;simp at hm
    | cons us wss ae=>
     intro m hm ao j;have hu:us.length=pp.n:=ao us (by simp);cases m with
     | zero=>
      simp only[mS,lh,mC,mz,true_and,mD,ot,mO];split;rename_i K;rw[lg (by omega)];rename_i K;rw[k8 (by omega),k8 (by omega),an,hu]
     | succ m=>
      simp only[na,lh];have O:(m+1)*pp.n=m*pp.n+pp.n:=lU _ _;have e2:(m+1+1)*pp.n=(m+1)*pp.n+pp.n:=lU _ _;rcases lb j us.length with K | K;rw[lg K,lg K,d7 (by omega)];rw[k8 K,k8 K,ae m (by simpa using hm) (λws aq=>ao ws (lc _ aq))];by_cases U:m*pp.n<=j - us.length/\j - us.length<(m+1)*pp.n;rw[d5 U,d5 (by omega)];congr 1;omega;rw[d7 U,d7 (by omega)]
   have ar:∀(vs:Lv_) (c:Av_) (off:Nat),off+vs.length<=c.size->∀j,(Bx c off vs)[j]?=if off<=j/\j<off+vs.length then vs[j - off]? else c[j]? :=by
    intro vs
    induction vs with
    | nil=>intro c off _ j;simp[Bx];omega
    | cons w vs ae=>
     intro c off U j;simp only[Bx,lC] at*;rw[ae _ _ (by simp;omega)];by_cases O:j=off;subst O;rw[d7 (by omega),d5 (by omega),nT,l4,k9 (by omega)]
     .by_cases e2:off+1<=j/\j<off+1+vs.length
      .rw [d5 e2,d5 (by omega)];have:j - off=(j - (off+1))+1:=by omega
       rw[this];simp
      .rw [d7 e2,d7 (by omega),d9 (by omega)]
   apply lF;intro j;have O:(m+1)*pp.n=m*pp.n+pp.n:=lU _ _;have t1:(Bx f (m*pp.n) ws').toList[j]?=(Bx f (m*pp.n) ws')[j]? :=lN;have t2:f.toList[j]?=f[j]? :=lN;rw[key wss m (by omega) al,l5,t1,ar ws' f (m*pp.n) (by omega),ak,l5,t2,an];by_cases U:m*pp.n<=j/\j<(m+1)*pp.n;rw[d5 U,d5 (by omega),d5 (by omega)];rw[d7 U,d7 (show ¬(m*pp.n<=j/\j<m*pp.n+pp.n) by omega)]
  .rw [mF] at Y hu;by_cases O:m=i;subst O;rw[d5 rfl,d5 ah] at Y;rw[d5 rfl,d5 (by omega)] at hu;cases Y;cases hu;exact am;rw[d7 O] at hu Y;exact aa i y us Y hu
theorem KW{pp:Rp α}{a:Option Addr}{xs:List α}{xv:α}{m:Int}(j:Nat)(O:OL e pp E a c seg xs)(hm:ix xs m=some xv)(U:S[j]?=some seg)
  (Y:ops[i]?=some ⟨d,.indexAddr t x y,ty,p,af,g⟩) (hw:AQ L ops ⟨d,.indexAddr t x y,ty,p,af,g⟩=some true) (Z:BH b n ⟨d,.indexAddr t x y,ty,p,af,g⟩=true)
  (aa:ev L x=some (.slice a xs.length c)) (ab:ev L y=some (.int kd m)) (ae:P.underlying t=some (.slice e)) (ag:A5 P e=some pp.n)
  (h:∀bk o f ws,S[j]?=some [(bk,.cells f e (0,0))]->pp.r E ws xv->(∀j w,ws[j]?=some w->f[o+j]?=some w)->o+pp.n<=f.size->(∀(x':α) (ws':Lv_),pp.r E ws' x'->OL e pp E a c [(bk,.cells (Bx f o ws') e (0,0))] (xs.set m.toNat x'))->o=m.toNat*pp.n->a=some ⟨bk,0,none⟩->
   JL J Q b n (Az L d (.pointer (some ⟨bk,o,none⟩))) ds (.inRegion ops rest::k) cs (Ah E H S)):
  JL J Q b n L ds (.inRegion ops (i::rest)::k) cs (Ah E H S):=by
 obtain⟨m,rfl,hm⟩:=Ig hm;have an:m<xs.length:=(d0.1 hm).1;obtain⟨bk,f,ws,rfl,rfl,ah,ai,aj,ak⟩:=OL.get O hm;have al:(m+1)*pp.n=m*pp.n+pp.n:=lU _ _;have am:m*pp.n+pp.n<=f.size:=by rw[← al];exact aj
 refine Aj (v:=.pointer (some ⟨bk,m*pp.n,none⟩)) Y hw Z (λρ K=>?_) (h bk (m*pp.n) f ws U ah ai am (by simpa using ak) (by simp) V);have:=Mh (P:=P) (s:=Ah E H S) (d:=d) (ty:=ty) (p:=p) (af:=af) (g:=g) ae ag (K x _ aa) (K y _ ab) ⟨by omega,by omega⟩;rw[CV rfl] at this;simpa using this
end
section
variable {b:Frame}{n:Nat}
variable {x:Operand}{v:Value}{i:Nat}
theorem JS.perm(K:S.flatten.Perm S'.flatten)(O:An E H S)(h:An E H S'->JL J Q b n L ds todo cs (Ah E H S')):JL J Q b n L ds todo cs (Ah E H S):=by
 have U:An E H S':=Nd.perm O K;rw[show Ah E H S=Ah E H S' from C3 O K];exact h U
theorem Gk{A B:Seg}(j:Nat)(K:S[j]?=some (A++B))(O:An E H S)(h:An E H (S.set j A++ [B])->JL J Q b n L ds todo cs (Ah E H (S.set j A++ [B]))):JL J Q b n L ds todo cs (Ah E H S):=by
 refine JS.perm ?_ O h;have U:=(Cl (seg':=A) K).1;have Y:=(Cl (seg':=A) K).2;rw[Gi];refine U.trans ?_;have Z:=Y.symm.append_right B
 rwa[ls] at Z
theorem JS.swap{A B:Seg}(j l:Nat)(O:S[j]?=some A)(U:S[l]?=some B)(Y:(j==l)=false)(Z:An E H S)(h:An E H ((S.set j B).set l A)->JL J Q b n L ds todo cs (Ah E H ((S.set j B).set l A))):JL J Q b n L ds todo cs (Ah E H S):=by
 have K:j≠l:=by simpa using Y
 refine JS.perm ?_ Z h;have a1:=(Cl (seg':=B) O).1;have aa:(S.set j [])[l]?=some B:=by rw[l7 K];exact U
 have ab:=(Cl (seg':=A) aa).1;have ae:((S.set j B).set l A)[l]?=some A:=by
  have:l<(S.set j B).length:=by rw[l9];exact(d0.1 U).1
  rw[mF,d5 rfl,d5 this]
 have c1:=(Cl (seg':=A) ae).1;rw[ns] at c1;have ag:((S.set j B).set l [])[j]?=some B:=by
  have:j<S.length:=(d0.1 O).1;rw[l7 (lu K)];simp[this]
 have c2:=(Cl (seg':=B) ag).1;have ah:(((S.set j B).set l []).set j [])=((S.set j []).set l []):=by
  rw[nJ _ _ K,ns,nJ _ _ K.symm]
 rw[ah] at c2;exact a1.trans ((ab.append_right A).trans ((c2.symm.append_right A).trans c1.symm))
theorem Gg{bk:Nat}{c:Av_}{f:Nat×Nat}{vs:Lv_}(j:Nat)(K:An E H S)(O:S[j]?=some ((bk,.cells c e f)::seg))(U:(c.toList.drop off).take vs.length=vs):∀i v,vs[i]?=some v->(Ah E H S).cell? (Addr.add ⟨bk,off,none⟩ i)=some v:=
 S7 K O λi v hi=>by
  have Y:i<vs.length:=(d0.1 hi).1
  rw[← U,nV Y,ng,lN] at hi
  exact hi
theorem P2(vs:Lv_):∀(c:Av_) (off:Nat),off+vs.length<=c.size->∀j,(Bx c off vs)[j]?=if off<=j/\j<off+vs.length then vs[j - off]? else c[j]? :=by
 induction vs with
 | nil=>intro c off _ j;simp[Bx];omega
 | cons w vs K=>
  intro c off U j;simp only[Bx,lC] at*;rw[K _ _ (by simp;omega)];by_cases O:j=off;subst O;rw[d7 (by omega),d5 (by omega),nT,l4,k9 (by omega)]
  .by_cases e2:off+1<=j/\j<off+1+vs.length
   .rw [d5 e2,d5 (by omega)];have:j - off=(j - (off+1))+1:=by omega
    rw[this];simp
   .rw [d7 e2,d7 (by omega),d9 (by omega)]
end
theorem elim_inl{K:Type}{f:α->Option K}{g:β->Option K}{x:α}{r:K}(h:Sum.elim f g (.inl x)=some r):f x=some r:=h
theorem elim_inr{K:Type}{f:α->Option K}{g:β->Option K}{x:β}{r:K}(h:Sum.elim f g (.inr x)=some r):g x=some r:=h
def room{α:Type}(xs:List α)(x:α):Option (List α):=if xs.length+1<=2^40 then some (xs++ [x]) else none
theorem TK{xs ys:List α}{x:α}(h:room xs x=some ys):xs.length+1<=2^40/\ys=xs++ [x]:=by
 unfold room at h;split at h;rename_i hb;exact⟨hb,(d6 h).symm⟩;cases h
def Np(a b:Int):Option Int:=if b=0 then none else some (a.tmod b)
def Na(a b:Nat):Option Nat:=if b=0 then none else some (a%b)
section
variable {x:Operand}{v:Value}{m:Int}{a b:Nat}
theorem Vq(K:ρ x=iV m)(O:ρ y=iV m')(h:Np m m'=some r):Yl P ⟨d,.binOp .rem t x y u,ty,p,af,g⟩ ρ s (iV r):=by
 unfold Np at h;split at h;cases h;rename_i U;cases h;exact Yl.rem K O U
theorem Uq{r:Nat}(K:ρ x=.int .u64 (a:Int))(O:ρ y=.int .u64 (b:Int))(h:Na a b=some r):Yl P ⟨d,.binOp .rem t x y u,ty,p,af,g⟩ ρ s (.int .u64 (r:Int)):=by
 unfold Na at h;split at h;cases h;rename_i U;cases h;exact Vx K O U
theorem Yl.min2(K:ρ x=iV m)(O:ρ y=iV m'):Yl P ⟨d,.call ⟨.builtin .min,#[x,y],ats⟩,ty,p,af,g⟩ ρ s (iV (min m m')):=by
 have e:(if m'<m then m' else m)=min m m':=by split<;>omega
 simp[Yl,execOp,lp,pure,bind,Sem.bind,K,O,resolve,invoke,builtin,Builtin.min_,Builtin.min2,e]
theorem Yl.max2(K:ρ x=iV m)(O:ρ y=iV m'):Yl P ⟨d,.call ⟨.builtin .max,#[x,y],ats⟩,ty,p,af,g⟩ ρ s (iV (max m m')):=by
 have e:(if m<m' then m' else m)=max m m':=by split<;>omega
 simp[Yl,execOp,lp,pure,bind,Sem.bind,K,O,resolve,invoke,builtin,Builtin.max_,Builtin.max2,e]
end
def LA(P:Program):List Field->List (Nat×Nat)->Prop
 | f::K,(o,n)::O=>f.offset=o/\A5 P f.type=some n/\LA P K O
 | [],[]=>True
 | _,_=>False
theorem LA.mapM{P:Program}:∀{K:List Field}{O:List (Nat×Nat)},LA P K O->K.mapM (λf=>(A5 P f.type).map λn=>(f.offset,n))=some O
 | [],[],_=>rfl
 | [],_::_,h=>h.elim
 | _::_,[],h=>h.elim
 | f::K,(o,n)::O,h=>by
  obtain⟨U,Y,Z⟩:=h
  simp only[nC,bind,Y,lW,Option.bind_some,LA.mapM Z,U];rfl
theorem Oa{L:Env}{ρ:Operand->Value}(h:Ed L ρ):∀{l:List (Nat×Operand)}{vs:List (Nat×Value)},l.mapM (λq=>(ev L q.2).map λv=>(q.1,v))=some vs->l.map (λ(j,x)=>(j,ρ x))=vs
 | [],vs,e=>by simp at e;subst e;rfl
 | q::l,vs,e=>by
  simp only[nC,bind] at e
  cases K:ev L q.2 with
  | none=>rw[K] at e;simp at e
  | some w=>
   rw[K] at e
   simp only[lW,Option.bind_some] at e
   let⟨Y,U,O⟩:=bind_some e
   simp at O;subst O
   simp[Oa h U,h _ _ K]
theorem BB{P:Program}{s:St}{ρ:Operand->Value}{L:Env}{d:Option Tmp}{t ty:TypeId}{p:String}{af:Ae_}{g:On_}{z:Value}{K:Array Field}{O:Array (Nat×Operand)}{vs:List (Nat×Value)}{cells:Av_}(places:List (Nat×Nat))(h:Ed L ρ)(U:zeroOf P t=some z)(Y:P.underlying t=some (.struct K))(Z:LA P K.toList places)
  (aa:O.toList.mapM (λq=>(ev L q.2).map λv=>(q.1,v))=some vs) (ab:Kh (places.toArray[·]?) z.cells vs=some cells):Yl P ⟨d,.build t O,ty,p,af,g⟩ ρ s (.agg cells):=
 Yl.build (places:=places.toArray) U Y (by simpa using Z.mapM) (Oa h aa) (by rw[fill_eq];exact ab)
theorem OL.again{e:TypeId}{pp:Rp α}{E:LH}{a:Option Addr}{bk o:Nat}{f:Av_}{xs:List α}{m:Int}{x:α}(O:OL e pp E a c [(bk,.cells f e (0,0))] xs)(hm:ix xs m=some x)(U:o=m.toNat*pp.n):
  ∃ws,pp.r E ws x/\(∀j w,ws[j]?=some w->f[o+j]?=some w)/\o+pp.n<=f.size/\∀(x':α) (ws':Lv_),pp.r E ws' x'->OL e pp E a c [(bk,.cells (Bx f o ws') e (0,0))] (xs.set m.toNat x'):=by
 obtain⟨m,rfl,hm⟩:=Ig hm;let⟨ah,ai,ws,aj,K,Y,Z,aa,ab⟩:=OL.get O hm;simp only[n6,nK,Obj.cells.injEq,and_true] at K;obtain⟨rfl,rfl⟩:=K;have ae:(m+1)*pp.n=m*pp.n+pp.n:=lU _ _;have ag:o=m*pp.n:=by simpa using U
 subst ag;exact⟨ws,Y,Z,by rw[← ae];exact aa,by simpa using ab⟩
theorem At.sub{E:LH}{bk o:Nat}{ws us:Lv_}(m:Nat)(h:At E bk o ws)(hu:(ws.drop m).take us.length=us):At E bk (o+m) us:=by
 obtain⟨f,e,fr,O,U⟩:=h;refine⟨f,e,fr,O,λj w K=>?_⟩;have Y:j<us.length:=(d0.1 K).1;rw[← hu,nV Y,ng] at K;rw[mc];exact U _ _ K
section
variable {b:Frame}{n:Nat}
variable {x:Operand}{v:Value}{i:Nat}
theorem JS.app{pp:Rp α}{t1 t2:TypeId}{id:Nat}{a:Option Addr}{xs ys:List α}{xv:α}{Z:Nat}{O:TypeId}{U:String}{Y:Ae_}{z:Value}(j:Nat)(ae:room xs xv=some ys)
  (ag:ops[i]?=some ⟨some d1,.buildSlice t2 1 #[(0,y)],O,U,Y,g'⟩) (hw:AQ L ops ⟨some d1,.buildSlice t2 1 #[(0,y)],O,U,Y,g'⟩=some true) (ah:BH b n ⟨some d1,.buildSlice t2 1 #[(0,y)],O,U,Y,g'⟩=true)
  (ai:ops[Z]?=some ⟨d,.call ⟨.builtin .append,#[x,.tmp d1],ats⟩,ty,p,af,g⟩) (aj:∀w,AQ (Az L (some d1) w) ops ⟨d,.call ⟨.builtin .append,#[x,.tmp d1],ats⟩,ty,p,af,g⟩=some true) (ak:BH b n ⟨d,.call ⟨.builtin .append,#[x,.tmp d1],ats⟩,ty,p,af,g⟩=true)
  (al:∀w,ev (Az L (some d1) w) x=some (.slice a xs.length c)) (am:ev L y=some v) (an:ats[0]?=some t) (ao:ats[1]?=some t1) (ap:P.underlying t=some (.slice e)) (aq:P.underlying t1=some (.slice e)) (ar:P.underlying t2=some (.slice e)) (au:A5 P e=some pp.n) (hb:Ew P e=some id) (av:zeroOf P e=some z) (aw:z.cells.size=pp.n)
  (ay:0<id) (az:id<=127) (aA:0<pp.n) (aB:pp.n<=64) (aC:OL e pp E a c seg xs) (aD:pp.r E v.cells.toList xv) (aE:An E H S) (aF:S[j]?=some seg)
  (h:∀w aa ab seg',OL e pp E aa ab seg' ys->An E H (S.set j seg')->JL J Q b n (Az (Az L (some d1) w) d (.slice aa ys.length ab)) ds (.inRegion ops rest::k) cs (Ah E H (S.set j seg'))):
  JL J Q b n L ds (.inRegion ops (i::Z::rest)::k) cs (Ah E H S):=by
 obtain⟨aG,rfl⟩:=TK ae;exact Tb j ag hw ah ai aj ak al am an ao ap aq ar au hb av aw ay az aA aB aG aC aD aE aF h
theorem Bt(K:S=S')(O:An E H S)(h:An E H S'->JL J Q b n L ds todo cs (Ah E H S')):JL J Q b n L ds todo cs (Ah E H S):=by
 subst K;exact h O
theorem N3(K:An E H S)(h:An E H (S++ [[]])->JL J Q b n L ds todo cs (Ah E H (S++ [[]]))):JL J Q b n L ds todo cs (Ah E H S):=
 Dt (S':=S++ [[]]) (by rw[Gi,lf]) K h
end
theorem DK.Km{P:Program}{J:Judge P}{f:FuncId}{args:Av_}{s:St}{R:Value->St->Prop}(h:DK J f args s R)(U:∀v s',R v s'->s'.q=false):DK J f args s (λv s'=>R v s'/\∃w,Fits s' w):=λQ c cs Y=>
 h Q c cs λv s' K=>by
  by_cases O:∃w,Fits s' w;exact Y v s' ⟨K,O⟩;exact J.step ⟨V,λw f=>absurd ⟨w,f⟩ O,λe=>by have:=U v s' K;subst e;cases this⟩
def AL(l:List Nat):Nat->Bool:=λx=>l.contains x
variable{oi:Oper}
section
variable {b:Frame}{n m fuel:Nat}
variable {x:Operand}{v:Value}{i:Nat}
def Fp(ops:Ao_)(listed:Array Bool)(m i:Nat):Bool:=match ops[i]? with
 | some oi=>decide (i<m)&&Region.noSelect ops&& !CQ oi.op&&HJ ops listed i oi&&GL ops listed&&listed.size==ops.size&&(Region.ready .any ops listed).contains i
 | none=>false
theorem UF(m:Nat){id:Nat}(hm:P.follows .mixedOrders=true)(K:(b.kind != .early)=true)
  (O:CW ops m=true) (h:CW ops m=true->AI J Q b n ds ops k cs m Cn ops.size (Array.replicate ops.size false) L (Ah E H S)):JL J Q b n L ds (.code (.region id ops true)::k) cs (Ah E H S):=
 Oh m Cn V hm K (h O)
theorem Qk{i:Nat}(hi:ops[i]?=some oi)(K:Fp ops listed m i=true):decide (i<m)=true/\Region.noSelect ops=true/\(!CQ oi.op)=true/\HJ ops listed i oi=true/\GL ops listed=true/\(listed.size==ops.size)=true/\(Region.ready .any ops listed).contains i=true:=by
 simp only[Fp,hi,f5] at K;obtain⟨⟨⟨⟨⟨⟨O,U⟩,Y⟩,Z⟩,aa⟩,ab⟩,ae⟩:=K;exact⟨O,U,Y,Z,aa,ab,ae⟩
theorem JG.val(i:Nat)(hi:ops[i]?=some oi)(K:CW ops m=true)(O:Fp ops listed m i=true)(U:s.q=false)
  (hw:AQ L ops oi=some true) (Y:A6 n oi.dst=true) (Z:∀ρ,Ed L ρ->∀s':St,(∀x o,(A2 D s).E x=some o->s'.E x=some o)->Yl P oi ρ s' v)
  (h:AI J Q b n ds ops k cs m D fuel (AV listed i) (Az L oi.dst v) s):AI J Q b n ds ops k cs m D (fuel+1) listed L s:=
 let ⟨aa,ab,ae,ag,ah,ai,aj⟩:=Qk hi O
 Tu hi aa K ab ae ag ah ai aj U hw Y (λρ ak s' _ al=>Z ρ ak s' al) h
theorem Yq(i:Nat)(hi:ops[i]?=some oi)(K:CW ops m=true)(O:Fp ops listed m i=true)(U:s.q=false)
  (hw:AQ L ops oi=some false) (Y:A6 n oi.dst=true)
  (h:AI J Q b n ds ops k cs m D fuel (AV listed i) (Az L oi.dst undef) s):AI J Q b n ds ops k cs m D (fuel+1) listed L s:=
 let ⟨Z,aa,ab,ae,ag,ah,ai⟩:=Qk hi O
 TW hi Z K aa ab ae ag ah ai U hw Y h
theorem WX{pp:Rp α}{a:Option Addr}{xs:List α}{xv:α}{mm:Int}(i:Nat)(U:Ak pp E a c xs)(K:ix xs mm=some xv)
  (Y:ops[i]?=some ⟨d,.indexAddr t x y,ty,p,af,g⟩) (Z:CW ops m=true) (aa:Fp ops listed m i=true) (ab:s.q=false)
  (hw:AQ L ops ⟨d,.indexAddr t x y,ty,p,af,g⟩=some true) (ae:A6 n d=true)
  (ag:ev L x=some (.slice a xs.length c)) (ah:ev L y=some (.int kd mm)) (ai:P.underlying t=some (.slice e)) (aj:A5 P e=some pp.n)
  (h:∀bk o ws,pp.r E ws xv->At E bk o ws->AI J Q b n ds ops k cs m D fuel (AV listed i) (Az L d (.pointer (some ⟨bk,o,none⟩))) s):
  AI J Q b n ds ops k cs m D (fuel+1) listed L s:=by
 obtain⟨mm,rfl,K⟩:=Ig K;have ak:mm<xs.length:=(d0.1 K).1;obtain⟨ao,⟨rfl,_⟩ | ⟨bk,off,rfl,al⟩⟩:=U;simp at ak
 let⟨ws,am,an⟩:=al mm xv K;refine JG.val (v:=.pointer (some ⟨bk,off+mm*pp.n,none⟩)) i Y Z aa ab hw ae (λρ O s' _=>?_) (h bk _ ws am an);have:=Mh (P:=P) (s:=s') (d:=d) (ty:=ty) (p:=p) (af:=af) (g:=g) ai aj (O x _ ag) (O y _ ah) ⟨by omega,by omega⟩;rw[CV rfl] at this;simpa using this
theorem JG.call{f:FuncId}{vs:Lv_}(Y:AO J f vs E [] R)(Z:Region.ready .any ops listed=[i])
  (aa:ops[i]?=some ⟨d,.call ⟨.value (.func f),args,ats⟩,ty,p,af,g⟩) (ab:A6 n d=true) (hw:AQ L ops ⟨d,.call ⟨.value (.func f),args,ats⟩,ty,p,af,g⟩=some true) (hb:Cz P f=true) (ae:evs L args.toList=some vs) (ag:An E H S)
  (ah:∀v E' seg',Le E E'->R v E' seg'->An E' H (S++ [seg'])->AI J Q b n ds ops k cs m Cn fuel (AV listed i) (Az L d v) (Ah E' H (S++ [seg']))):
  AI J Q b n ds ops k cs m Cn (fuel+1) listed L (Ah E H S):=by
 have ai:=DK.Km (Y (AM S.flatten H) trivial) (by rintro v s' ⟨E',B',_,_,_,rfl⟩;rfl);refine AI.call V Z aa ab hw hb ae ai ?_;rintro v ap ⟨⟨E',B',hle,aj,ak,rfl⟩,w,al⟩;have e2:mk E' (AM S.flatten H) B'=mk E' H (B'++S.flatten):=by unfold mk;rw[DC]
 have am:Nd E' H S.flatten:=Nd.grow ag λx K=>by
  have an:=al.d x K;have ao:AM B' (AM S.flatten H) x=none:=an;exact(FF ao).1
 have O:Nd E' H (B'++S.flatten):=Nd.glue ak am;have U:(B'++S.flatten).Perm (S++ [B']).flatten:=by rw[Gi];exact f6
 rw[e2,C3 O U];exact⟨V,λx o K=>hle x o K,ah v E' B' hle aj (Nd.perm O U)⟩
end
theorem M1{E H:LH}{S:List Seg}{bk:Nat}{o:Obj}(K:An E H S)(O:S[j]?=some ((bk,o)::seg)):E bk=none:=by
 have hm:(bk,o)∈S.flatten:=mt.2 ⟨_,ll O,by simp⟩;exact((Nd.iff.1 K).2 _ hm).1
def Jk{α:Type}(n:Int)(z:α):Option (List α):=if 0<=n/\n<=2^20 then some (List.replicate n.toNat z) else none
def CJ{α:Type}(xs ys:List α):Option (List α):=if xs.length+ys.length<=2^40 then some (xs++ys) else none
def EY{α:Type}(xs:List α)(lo hi:Int):Option (List α):=if 0<=lo/\lo<=hi/\hi<=xs.length then some ((xs.take hi.toNat).drop lo.toNat) else none
section
variable {x:Operand}{v:Value}{m:Int}{a b:Nat}
end
variable {L':Env}
variable{ax:Option Addr}{cx:Nat}
section
variable {b:Frame}{n:Nat}
variable {x:Operand}{v:Value}{i:Nat}
theorem Uc{ρ:Operand->Value}:execOp ρ ⟨d,.makeSlice t x y,ty,p,af,g⟩=(do pure (Next.value (← Instr.makeSlice t (ρ x) (ρ y)))):=by
 simp only[execOp]
theorem NP{α:Type}(w:List α):∀m:Nat,((List.replicate m w).flatten).length=m*w.length
 | 0=>by simp
 | m+1=>by rw[nA,lh,lr,NP w m,lU,nU]
theorem U5(z:Av_)(O:0<z.size):∀m:Nat,((Array.range (m*z.size)).map (z[· % z.size]!)).toList=(List.replicate m z.toList).flatten:=by
 intro m;apply lF;intro j;simp only[nq,Array.toList_range,l8];by_cases K:j<m*z.size
 .rw [m4 K];have Y:j/z.size<m:=(Nat.div_lt_iff_lt_mul O).2 K;have U:j%z.size<z.size:=nP _ O;have hw:(List.replicate m z.toList)[j/z.size]?=some z.toList:=by simp[Y]
  have:=I5 (n:=z.size) (wss:=List.replicate m z.toList) (λws Z=>by rw[lY Z];simp) hw (j%z.size) z[j%z.size] (by simp[U]);rw[show j/z.size*z.size+j%z.size=j from by rw[Nat.mul_comm];exact Nat.div_add_mod _ _] at this;rw[this];simp[U]
 .have hlen:((List.replicate m z.toList).flatten).length=m*z.size:=by rw[NP];simp
  rw[lB (by simpa using K),lB (by rw[hlen];omega)];rfl
theorem JS.make{pp:Rp α}{z:Value}{Z:α}{m:Int}{xs:List α}(U:Jk m Z=some xs)
  (aj:ops[i]?=some ⟨d,.makeSlice t x y,ty,p,af,g⟩) (hw:AQ L ops ⟨d,.makeSlice t x y,ty,p,af,g⟩=some true) (ak:BH b n ⟨d,.makeSlice t x y,ty,p,af,g⟩=true)
  (al:ev L x=some (iV m)) (Y:ev L y=some (iV m)) (am:P.underlying t=some (.slice e)) (an:A5 P e=some pp.n) {O:Nat}(hb:Ew P e=some O) (aB:O<=127) (ao:zeroOf P e=some z) (aC:0<pp.n) (aa:pp.r E z.cells.toList Z) (ap:An E H S)
  (h:∀r seg,OL e pp E (some ⟨r,0,none⟩) xs.length seg xs->An E H (S++ [seg])->JL J Q b n (Az L d (.slice (some ⟨r,0,none⟩) xs.length xs.length)) ds (.inRegion ops rest::k) cs (Ah E H (S++ [seg]))):
  JL J Q b n L ds (.inRegion ops (i::rest)::k) cs (Ah E H S):=by
 unfold Jk at U;split at U
 rotate_left
 .cases U
 rename_i hm;cases U;refine JL.op aj hw ak λρ ab=>?_;rw[Uc,ab x _ al,ab y _ Y];refine Av _ _ ?_;unfold Instr.makeSlice;refine Av _ _ (B6 am ?_);simp only[asInt,GB];let⟨inf,aq,ar⟩:=KT hb;refine Av (x:=typeInfo e) _ (GC aq ?_);simp only[ar,H5 (show -9223372036854775808<=m/\m<=9223372036854775807 by omega)];have aD:(O:Int)*m<=127*2^20:=by
  have ae:(O:Int)*m<=127*m:=Int.mul_le_mul_of_nonneg_right (by omega) hm.1;omega
 have au:((decide (m<0) || decide ((O:Int)*m>2^48)) || decide (m<0) || decide (m>m))=false:=by
  simp only[Bool.or_eq_false_iff,ni];omega
 rw[au];simp only[ld,lK];refine Av (x:=askRoom _) _ ?_;have av:∀{Q:Unit->St->Prop}{X:Halt->St->Prop}(w:Nat),Q () (Ah E H S)->lp P (askRoom w) (Ah E H S) Q X:=by
  intro Q X w ag;unfold askRoom;split;exact⟨.inl ⟨V,V⟩,ag⟩;exact ag
 refine av _ (Av (x:=Go.sizeOf e) _ (DO an ?_));have ah:z.cells.size=pp.n:=by simpa using pp.len aa
 have fin:∀K:Av_,((Array.range (m.toNat*pp.n)).map (K[· % K.size]!)).toList=(List.replicate m.toNat z.cells.toList).flatten->lp P (do let a ← newRow e ((Array.range (m.toNat*pp.n)).map (K[· % K.size]!));pure (Value.slice (some a) m.toNat m.toNat)) (Ah E H S) (λa s'=>lp P (pure (Next.value a)) s' (λaw s'=>match aw with
   | .value v=>JL J Q b n (Az L d v) ds (.inRegion ops rest::k) cs s'
   | .skip=>JL J Q b n (Az L d undef) ds (.inRegion ops rest::k) cs s'
   | _=>False) (λ_ _=>False)) (λ_ _=>False):=by
  intro K ay;refine Av _ _ (HA ap λr ai=>?_);rw[(EU ai).1];have aE:((Array.range (m.toNat*pp.n)).map (K[· % K.size]!)).size=m.toNat*pp.n:=by simp
  have:=h r _ ⟨List.replicate m.toNat z.cells.toList,.inr ⟨r,_,rfl,rfl,by simp,by simp,by
   rw[ay,me (by rw[NP];simp[ah])]⟩,by simp,λi y us Y hu=>by
    have:=ll Y;have az:=lY this
    have:=ll hu;have e2:=lY this
    subst az e2;exact aa⟩ (EU ai).2
  simp only[n9] at this;exact this
 split
 .rename_i aA;have ae:m.toNat=0:=by rcases Nat.mul_eq_zero.1 aA with h | h<;>omega
  exact fin #[] (by simp[ae])
 .refine Av (x:=zeroValue e) _ (Fh ao ?_);refine fin z.cells ?_;rw[← ah];exact U5 z.cells (by omega) _
theorem OA{pp:Rp α}(O:ops[i]?=some ⟨d,.buildSlice t 0 #[],ty,p,af,g⟩)(hw:AQ L ops ⟨d,.buildSlice t 0 #[],ty,p,af,g⟩=some true)(U:BH b n ⟨d,.buildSlice t 0 #[],ty,p,af,g⟩=true)
  (Y:P.underlying t=some (.slice e)) (Z:A5 P e=some pp.n) (aa:An E H S)
  (h:∀r seg,OL e pp E (some ⟨r,0,none⟩) 0 seg []->An E H (S++ [seg])->JL J Q b n (Az L d (.slice (some ⟨r,0,none⟩) 0 0)) ds (.inRegion ops rest::k) cs (Ah E H (S++ [seg]))):
  JL J Q b n L ds (.inRegion ops (i::rest)::k) cs (Ah E H S):=by
 refine JL.op O hw U λρ ae=>?_;rw[PZ];refine Av _ _ ?_;unfold Instr.buildSlice;refine Av _ _ (B6 Y ?_);refine Av _ _ (DO Z ?_);rw[d7 (by omega),d5 (by omega)];refine Av (x:=pure #[]) _ ?_;simp only[lp,pure,List.map_toArray,List.map_nil,Instr.fill];refine Av _ _ (HA aa λr K=>?_);rw[(EU K).1];exact h r _ ⟨[],.inr ⟨r,_,V,V,by simp,la _,by simp⟩,V,λi x ws ab=>by simp at ab⟩ (EU K).2
theorem Ak.rows{pp:Rp α}{a:Option Addr}{xs:List α}(U:Ak pp E a c xs):∃wss:List (Lv_),wss.length=xs.length/\(∀(i:Nat) x ws,xs[i]?=some x->wss[i]?=some ws->pp.r E ws x)/\
  ((xs=[]/\∀ad:Addr,a=some ad->ad.spot=none∨c=0)∨∃bk off,a=some ⟨bk,off,none⟩/\∀(i:Nat) ws,wss[i]?=some ws->At E bk (off+i*pp.n) ws):=by
 obtain⟨ab,U⟩:=U;rcases U with⟨rfl,Z⟩ | ⟨bk,off,rfl,aa⟩;exact⟨[],V,λi x ws O=>by simp at O,.inl ⟨V,Z⟩⟩
 .have Y:∀i:Fin xs.length,∃ws,pp.r E ws xs[i]/\At E bk (off+i*pp.n) ws:=λi=>aa i xs[i] (d3 i.2);refine⟨List.ofFn λi=>Classical.choose (Y i),by simp,λi x ws O hw=>?_,.inr ⟨bk,off,V,λi ws hw=>?_⟩⟩;have K:i<xs.length:=(d0.1 O).1;simp[K] at hw;subst hw;rw[d3 K] at O;cases O;exact(mg (Y ⟨i,K⟩)).1
  .have K:i<xs.length:=by have:=(d0.1 hw).1;simpa using this
   simp[K] at hw;subst hw;exact(mg (Y ⟨i,K⟩)).2
theorem L8{n:Nat}:∀{wss:List (Lv_)},(∀ws∈wss,ws.length=n)->wss.flatten.length=wss.length*n
 | [],_=>by simp
 | ws::wss,h=>by rw[lh,lr,h ws (by simp),L8 λw hw=>h w (lc _ hw),lC,lU,nU]
theorem NQ{n:Nat}:∀{wss:List (Lv_)},(∀ws∈wss,ws.length=n)->∀{j:Nat}{w:Value},wss.flatten[j]?=some w->∃(i m:Nat) (ws:Lv_),wss[i]?=some ws/\ws[m]?=some w/\j=i*n+m
 | [],_,_,_,h=>by simp at h
 | us::wss,O,j,w,h=>by
  have hu:=O us (by simp)
  rw[lh] at h
  rcases lb j us.length with K | K
  .rw [lg K] at h
   exact⟨0,j,us,V,h,by simp⟩
  .rw [k8 K] at h;let⟨i,m,ws,U,Y,Z⟩:=NQ (λws hw=>O ws (lc _ hw)) h;exact⟨i+1,m,ws,by simpa using U,Y,by rw[lU];omega⟩
theorem NX{pp:Rp α}{O:List (Lv_)}{xs ys:List α}(U:wss.length=xs.length)(h:∀(i:Nat) x ws,xs[i]?=some x->wss[i]?=some ws->pp.r E ws x)(Y:∀(i:Nat) x ws,ys[i]?=some x->O[i]?=some ws->pp.r E ws x):
  ∀(i:Nat) y us,(xs++ys)[i]?=some y->(wss++O)[i]?=some us->pp.r E us y:=by
 intro i y us K hu;rcases lb i xs.length with hi | hi;rw[lg hi] at K;rw[lg (by omega)] at hu;exact h i y us K hu;rw[k8 hi] at K;rw[k8 (by omega),U] at hu;exact Y _ y us K hu
theorem Te{e t t1:TypeId}{id am l m:Nat}{a:Option Addr}{blk:List (Nat×Obj)}{xs ys:Lv_}{i:Nat}{rest:List Nat}{d:Option Tmp}{x y:Operand}{ty:TypeId}{p:String}{af:Ae_}{g:On_}{z:Value}{B1:List (Nat×Obj)}
  (ay:ops[i]?=some ⟨d,.call ⟨.builtin .append,#[x,y],ats⟩,ty,p,af,g⟩) (hw:AQ L ops ⟨d,.call ⟨.builtin .append,#[x,y],ats⟩,ty,p,af,g⟩=some true) (az:BH b n ⟨d,.call ⟨.builtin .append,#[x,y],ats⟩,ty,p,af,g⟩=true)
  (aA:ev L x=some (.slice a l c)) (aB:ev L y=some (.slice ax m cx)) (aC:ats[0]?=some t) (aD:ats[1]?=some t1) (aE:P.underlying t=some (.slice e)) (aF:P.underlying t1=some (.slice e)) (aG:A5 P e=some id) (hb:Ew P e=some am) (aH:zeroOf P e=some z) (aI:z.cells.size=id)
  (aJ:0<am) (aK:am<=127) (aL:l+m<=2^40) (aM:∀w∈ys,BX w=true) (aj:GS e id a l c blk xs) (an:Nd E H (B0++blk++B1)) (ao:GR (mk E H (B0++blk++B1)) (.slice ax m cx) id ys)
  (h:∀au ak ap,GS e id au (l+m) ak ap (xs++ys)->Nd E H (B0++ap)->JL J Q b n (Az L d (.slice au (l+m) ak)) ds (.inRegion ops rest::k) cs (mk E H (B0++ap))):
  JL J Q b n L ds (.inRegion ops (i::rest)::k) cs (mk E H (B0++blk++B1)):=by
 refine JL.op ay hw az λρ av=>?_;rw[KI,av x _ aA,av y _ aB];have aN:Ng (B0++blk++B1) B0.length e id a l c xs:=by
  rcases aj with⟨K,Y,ae,ag,aa⟩ | ⟨bk,f,K,Y,ae,ag,aa⟩;exact .inl ⟨K,Y,ae,aa⟩;refine .inr ⟨bk,f,K,?_,ae,ag,aa⟩;subst Y;simp
 have hlen:=aj.length;refine Av _ _ (N9 (pl:=B0.length) aC aD aF aE aG hb aH aI an aN ao aM aJ aL aK ?_ ?_ ?_)
 ·
  intro bk f O al aT aU aO aq ar ab;rcases aj with⟨K,_⟩ | ⟨U,f0,K,Y,ae,ag,aa⟩;rw[K] at al;cases al
  .subst Y;have aP:U=bk:=by rw[K] at al;simpa using al
   subst aP;have aQ:(B0++ [(U,Obj.cells f0 e (0,0))]++B1).set B0.length (U,.cells O e (0,0))=B0++ [(U,.cells O e (0,0))]++B1:=by
    rw[ls,ls];exact HE _ _ _ _
   rw[aQ] at ab ⊢;have ah:Nd E H (B0++ [(U,.cells O e (0,0))]):=Iy.Nd.left ab;refine JL.drop (B0++ [(U,.cells O e (0,0))]) (λp ai=>?_) ab (h a c _ (.inr ⟨U,O,K,V,aq,aO,ar.symm⟩) ah);exact lw.1 (ma _ ai)
 .intro aw hm;rcases aj with⟨K,Y,ae,ag,aa⟩ | ⟨U,f0,K,_⟩
  .subst hm;have aR:ys=[]:=by
    cases ax with
    | none=>exact ao.2
    | some ad=>have:=ao.2.1;simp at this;exact this
   subst Y ag aa aR;have ah:Nd E H (B0++ []):=Iy.Nd.left an;exact JL.drop (B0++ []) (λp ai=>lw.1 (ma _ ai)) an (h none 0 [] (by simpa using GS.nil) ah)
  .rw [K] at aw;cases aw
 ·
  intro r O ak aS aq ar ab;have ah:Nd E H (B0++ [(r,.cells O e (0,0))]):=Iy.Nd.pick ab;refine JL.drop (B0++ [(r,.cells O e (0,0))]) (λp ai=>?_) ab (h (some ⟨r,0,none⟩) ak _ (.inr ⟨r,O,V,V,aq,aS,ar.symm⟩) ah);refine lw.1 ?_;rcases lm.1 ai with q | q;simp[q];exact lI _ q
theorem G9{pp:Rp α}{t1:TypeId}{ae:Nat}{a:Option Addr}{xs ys ag:List α}{z:Value}(j:Nat)(Y:CJ xs ys=some ag)
  (ap:ops[i]?=some ⟨d,.call ⟨.builtin .append,#[x,y],ats⟩,ty,p,af,g⟩) (hw:AQ L ops ⟨d,.call ⟨.builtin .append,#[x,y],ats⟩,ty,p,af,g⟩=some true) (aq:BH b n ⟨d,.call ⟨.builtin .append,#[x,y],ats⟩,ty,p,af,g⟩=true)
  (ar:ev L x=some (.slice a xs.length c)) (au:ev L y=some (.slice ax ys.length cx)) (av:ats[0]?=some t) (aw:ats[1]?=some t1) (ay:P.underlying t=some (.slice e)) (az:P.underlying t1=some (.slice e)) (aA:A5 P e=some pp.n) (hb:Ew P e=some ae) (aB:zeroOf P e=some z) (aC:z.cells.size=pp.n)
  (aD:0<ae) (aE:ae<=127) (ah:OL e pp E a c seg xs) (aj:Ak pp E ax cx ys) (aF:An E H S) (ak:S[j]?=some seg)
  (h:∀Z aa seg',OL e pp E Z aa seg' ag->An E H (S.set j seg')->JL J Q b n (Az L d (.slice Z ag.length aa)) ds (.inRegion ops rest::k) cs (Ah E H (S.set j seg'))):
  JL J Q b n L ds (.inRegion ops (i::rest)::k) cs (Ah E H S):=by
 unfold CJ at Y;split at Y
 rotate_left
 .cases Y
 rename_i aG;cases Y;obtain⟨wss,ah,al,aH⟩:=ah;let⟨aI,am⟩:=FU aF ak;obtain⟨ab,O,ai,U⟩:=aj.rows;have an:=Ic O ai;rw[aI];have aJ:∀w∈ab.flatten,BX w=true:=λw hw=>by
  let⟨us,aK,hw⟩:=mt.1 hw;let⟨q,K⟩:=lw.1 aK;have aL:q<ys.length:=by rw[← O];exact(d0.1 K).1
  exact pp.one (ai q _ us (d3 aL) K) w hw
 have hlen:(xs++ys).length=xs.length+ys.length:=by simp
 have ao:GR (mk E H ((S.set j []).flatten++seg)) (.slice ax ys.length cx) pp.n ab.flatten:=by
  rcases U with⟨U,aV⟩ | ⟨bk,off,rfl,U⟩
  .subst U;have:ab=[]:=lD O;subst this;cases ax with
   | none=>exact⟨rfl,rfl⟩
   | some ad=>exact⟨.inr rfl,by simp,mz _,λq w K=>by simp at K⟩
  .refine⟨.inl V,by rw[L8 an,O],aj.1,λq w K=>?_⟩;let⟨aM,m,ws,aN,e2,aO⟩:=NQ an K;have:=(U aM ws aN).cell (H:=H) (B:=(S.set j []).flatten++seg) e2;subst aO;rw[← mc];exact this
 have aP:(S.set j []).flatten++seg=(S.set j []).flatten++seg++ []:=(lf _).symm;rw[aP] at am ao ⊢;refine Te ap hw aq ar au av aw ay az aA hb aB aC aD aE aG aJ ah am ao λZ aa aQ aR aS=>?_;let⟨aT,aU⟩:=HH ak aS;rw[aT];have:=h Z aa aQ ⟨wss++ab,by rw[hlen,mf];exact aR,by simp[al,O],NX al aH ai⟩ aU;rw[hlen] at this;exact this
end
section
variable {b:Frame}{n m fuel:Nat}
variable {x:Operand}{v:Value}{i:Nat}
theorem G8(h:Sub L' L)(k':AI J Q b n ds ops k cs m D fuel listed L' s):AI J Q b n ds ops k cs m D fuel listed L s:=λT K=>k' T (K.sub h)
theorem Ib{id:Nat}{O:Array Bool}(fuel:Nat)(listed:Array Bool)(I:Env->St->Prop)(U:∀L s,I L s->AI J Q b n ds ops k cs m D fuel listed L s)(h:(∀L s,I L s->AI J Q b n ds ops k cs m D fuel listed L s)->AI J Q b n ds ops k cs m D id O L s):AI J Q b n ds ops k cs m D id O L s:=h U
end
def Pj(t:TypeId)(v:Value):Option (Int×Int)->Prop
 | none=>v=.nilIface
 | some (c,a)=>v=.iface t (.agg #[iV c,iV a])
variable{l:Lv_}
theorem At.tail{E:LH}{bk o:Nat}{ws:Lv_}(h:At E bk o (l++ws)):At E bk (o+l.length) ws:=by
 obtain⟨f,e,fr,K,O⟩:=h;refine⟨f,e,fr,K,λj w U=>?_⟩;rw[mc];refine O _ _ ?_;rw[k8 (by omega)];rw[show l.length+j - l.length=j by omega];exact U
variable{kk:Nat}
theorem HM{pp:Rp α}{E:LH}{bk o:Nat}{ws:Lv_}{xs:List α}{m:Int}{x:α}(O:(rA kk pp).r E ws xs)(h:At E bk o ws)(hm:ix xs m=some x):∃us,pp.r E us x/\At E bk (o+m.toNat*pp.n) us/\0<=m/\m<kk:=by
 obtain⟨U,wss,rfl,Y,K⟩:=O;obtain⟨m,rfl,hm⟩:=Ig hm;have ab:m<xs.length:=(d0.1 hm).1;have hw:wss[m]?=some wss[m]:=d3 (by omega);refine⟨wss[m],K m x _ hm hw,?_,by omega,by omega⟩;obtain⟨f,e,fr,Z,g2⟩:=h;refine⟨f,e,fr,Z,λj w aa=>?_⟩;rw[mc];exact g2 _ _ (I5 (Ic (Y.trans U.symm) K) hw j w aa)
variable {v':Value}
variable{ms:Array (String×TypeId)}{X:Halt->St->Prop}
section
variable {x:Operand}{v:Value}
theorem TE{K:TypeId}{o:Option (Int×Int)}{n:Nat}(O:P.underlying t=some (.interface ms))(he:Pj K v o){Q:Bool->St->Prop}(k:Q o.isNone s):lp P (Op.equalIn (n+1) t v .nilIface) s Q X:=by
 unfold Op.equalIn;refine Av _ _ (B6 O ?_);cases o with
 | none=>obtain rfl:v=.nilIface:=he;exact k
 | some q=>obtain⟨c,a⟩:=q;obtain rfl:v=.iface K (.agg #[iV c,iV a]):=he;exact k
theorem Va{K:TypeId}{o:Option (Int×Int)}(O:P.underlying t=some (.interface ms))(he:Pj K v o)(U:ρ x=v)(Y:ρ (.const .nilIface)=.nilIface):Yl P ⟨d,.binOp .eql t x (.const .nilIface) u,ty,p,af,g⟩ ρ s (.bool o.isNone):=by
 refine EJ (sm:=do eqGuard .eql t x (.const .nilIface) (ρ x) (ρ (.const .nilIface));binOp .eql t (ρ x) (ρ (.const .nilIface))) V ?_
 rw[U,Y];have Z:lp P (eqGuard .eql t x (.const .nilIface) v .nilIface) s (λ_ s'=>s'=s) (λ_ _=>False):=by
  cases o with
  | none=>obtain rfl:v=.nilIface:=he;simp[eqGuard,lp,pure]
  | some q=>obtain⟨c,a⟩:=q;obtain rfl:v=.iface K (.agg #[iV c,iV a]):=he;simp[eqGuard,lp,pure]
 refine Av _ _ (CH _ Z ?_ (λ_ _ h=>h));rintro _ _ rfl;have hb:binOp .eql t v .nilIface=(do pure (.bool (← Op.equal t v .nilIface))):=by
  cases o with
  | none=>obtain rfl:v=.nilIface:=he;rfl
  | some q=>obtain⟨c,a⟩:=q;obtain rfl:v=.iface K (.agg #[iV c,iV a]):=he;rfl
 rw[hb];refine Av (x:=Op.equal t v .nilIface) _ ?_;unfold Op.equal Op.maxDepth;refine TE O he ?_;refine⟨?_,V⟩
 rfl
end
section
variable {b:Frame}{n:Nat}
variable {x:Operand}{i:Nat}
theorem GI{pp:Rp α}{bk o:Nat}{ws:Lv_}{xs:List α}{xv:α}{m:Int}(O:At E bk o (l++ws))(U:(rA kk pp).r E ws xs)(hm:ix xs m=some xv)
  (Y:ops[i]?=some ⟨d,.indexAddr t x y,ty,p,af,g⟩) (hw:AQ L ops ⟨d,.indexAddr t x y,ty,p,af,g⟩=some true) (Z:BH b n ⟨d,.indexAddr t x y,ty,p,af,g⟩=true)
  (aa:ev L x=some (.pointer (some ⟨bk,o+l.length,none⟩))) (ab:ev L y=some (.int kd m)) (ae:P.underlying t=some (.array kk e)) (ag:A5 P e=some pp.n)
  (h:∀o' us,pp.r E us xv->At E bk o' us->JL J Q b n (Az L d (.pointer (some ⟨bk,o',none⟩))) ds (.inRegion ops rest::k) cs (Ah E H S)):
  JL J Q b n L ds (.inRegion ops (i::rest)::k) cs (Ah E H S):=by
 let⟨us,ah,ai,aj,ak⟩:=HM U O.tail hm;refine Aj (v:=.pointer (some ⟨bk,o+l.length+m.toNat*pp.n,none⟩)) Y hw Z (λρ K=>?_) (h _ us ah ai);have:=Qh (P:=P) (s:=Ah E H S) (d:=d) (ty:=ty) (p:=p) (af:=af) (g:=g) ae ag (K x _ aa) (K y _ ab) ⟨aj,ak⟩;rw[CV rfl] at this;exact this
end
section
variable {x:Operand}{v:Value}
theorem Tv{o:BinOp}{c K:Av_}(O:o=.eql∨o=.neq)(U:P.eqGuardType P.depth t=false){Q:Unit->St->Prop}(k:Q () s):lp P (eqGuard o t x y (.agg c) (.agg K)) s Q X:=by
 rcases O with rfl | rfl<;>(simp[eqGuard,lp,bind,Sem.bind,program,pure,U];exact k)
end
section
variable (J:Judge P)(Q:Gs_)(b:Frame)(n:Nat)(ds:Ld_)(ops:Ao_)(k:Li_)(cs:Lf_)(m:Nat)(D:Nat->Bool)
def Take(fuel:Nat)(listed:Array Bool)(L:Env)(s:St)(i:Nat):Prop:=
 ∃o,ops[i]?=some o/\(!CQ o.op)=true/\A6 n o.dst=true/\AQ L ops o=some true/\∀ρ,Ed L ρ->lp P (execOp ρ o) (A2 D s) (λO s'=>match O with
  | .value v=>AI J Q b n ds ops k cs m D fuel (AV listed i) (Az L o.dst v) (BV D s s')
  | .skip=>AI J Q b n ds ops k cs m D fuel (AV listed i) (Az L o.dst undef) (BV D s s')
  | .enter f args=>∃R,DK J f args (BV D s s') R/\∀v K,R v K->K.q=false/\(∀x o,(A2 D s).E x=some o->(A2 D K).E x=some o)/\AI J Q b n ds ops k cs m D fuel (AV listed i) (Az L o.dst v) K
  | _=>False) (λ_ _=>False)
end
variable{jp:Nat}
section
variable {b:Frame}{n m fuel:Nat}
variable {x:Operand}{v:Value}{i:Nat}
theorem NW(U:s.q=false){l:List Nat}(K:Region.ready .any ops listed=l)(Y:l≠ [])(h:∀i∈l,Take J Q b n ds ops k cs m D fuel listed L s i):AI J Q b n ds ops k cs m D (fuel+1) listed L s:=
 Qv U (by rw[K];exact Y) λi hi o O=>by
  rw[K] at hi
  let⟨o',Z,aa,ab,ae,ag⟩:=h i hi
  obtain rfl:o'=o:=by rw[Z] at O;exact d6 O
  exact⟨aa,ab,true,ae,λe=>(by cases e),λ_=>ag⟩
theorem JG.one(K:s.q=false)(O:Region.ready .any ops listed=[i])(h:Take J Q b n ds ops k cs m D fuel listed L s i):AI J Q b n ds ops k cs m D (fuel+1) listed L s:=
 NW K O (by simp) (by simpa using h)
theorem Du{i:Nat}(K:s.q=false)(O:Region.ready .any ops listed=[i,j])(hi:Take J Q b n ds ops k cs m D fuel listed L s i)(U:Take J Q b n ds ops k cs m D fuel listed L s j):AI J Q b n ds ops k cs m D (fuel+1) listed L s:=
 NW K O (by simp) (by intro q K;simp at K;rcases K with rfl | rfl<;>assumption)
def plus(E:LH)(bk:Nat)(o:Obj):LH:=λx=>if x=bk then Option.some o else E x
theorem VR{bk:Nat}{o:Obj}(aa:An E H S)(ab:S[jp]?=Option.some [(bk,o)]):A2 (AL [bk]) (Ah E H S)=Ah (plus E bk o) H (S.set jp [])/\An (plus E bk o) H (S.set jp []):=by
 let⟨ag,Y⟩:=FU aa ab;have Z:=Nd.iff.1 Y;have al:E bk=Option.none:=(Z.2 (bk,o) (by simp)).1;have ah:H bk=Option.none:=(Z.2 (bk,o) (by simp)).2;have ae:∀q∈(S.set jp []).flatten,q.1≠bk:=λq O e=>by
  have:=Z.1;rw[lL,lG] at this;exact this.2.2 q.1 (mG O) bk (by simp) e
 have ai:(Ah E H S).get bk=Option.some o:=Ef (i:=0) aa ab V;have aj:∀x,x≠bk->AM ((S.set jp []).flatten++ [(bk,o)]) H x=AM (S.set jp []).flatten H x:=λx K=>by
  rw[show AM ((S.set jp []).flatten++ [(bk,o)]) H=AM ([(bk,o)]++(S.set jp []).flatten) H from KL Y f6];simp[AM,K]
 refine⟨?_,?_⟩
 .unfold A2;have ak:(λx=>if AL [bk] x=true then(Ah E H S).get x else(Ah E H S).E x)=plus E bk o:=by
   funext x;unfold plus;by_cases K:x=bk;subst K;simp[AL,ai];simp[AL,K];rfl
  have e2:(λx=>if AL [bk] x=true then Option.none else(Ah E H S).H x)=AM (S.set jp []).flatten H:=by
   funext x;by_cases K:x=bk;subst K;simp[AL];rw[KS ae,ah];simp only[AL,List.contains_cons,List.contains_nil,Bool.or_false,mH,d7 K];rw[ag];exact aj x K
  rw[ak,e2];rfl
 .have U:Nd E H (S.set jp []).flatten:=Iy.Nd.left Y;show Nd _ H (S.set jp []).flatten;rw[Nd.iff] at U ⊢;exact⟨U.1,λq O=>⟨by unfold plus;rw[d7 (ae q O)];exact(U.2 q O).1,(U.2 q O).2⟩⟩
theorem Tm{bk:Nat}{o:Obj}(ai:An E H S)(aj:S[jp]?=Option.some [(bk,o)])(ak:An (plus E bk o) H S')(Y:S'[jp]?=Option.some []):BV (AL [bk]) (Ah E H S) (Ah (plus E bk o) H S')=Ah E H (S'.set jp [(bk,o)])/\An E H (S'.set jp [(bk,o)]):=by
 let⟨al,ab⟩:=FU ai aj;have ae:=Nd.iff.1 ab;have am:E bk=Option.none:=(ae.2 (bk,o) (by simp)).1;have an:H bk=Option.none:=(ae.2 (bk,o) (by simp)).2;have Z:(S'.set jp []).flatten=S'.flatten:=by
  have:S'.set jp []=S':=by
   apply lF;intro q;rw[mF];split;rename_i e;subst e;rw[Y,d5 (d0.1 Y).1];rfl
  rw[this]
 have U:=Nd.iff.1 (show Nd _ H S'.flatten from ak);have ag:∀q∈S'.flatten,q.1≠bk:=λq K e=>by
  have:=(U.2 q K).1;unfold plus at this;rw[d5 e] at this;cases this
 have aa:Nd E H ((S'.set jp []).flatten++ [(bk,o)]):=by
  rw[Z,Nd.iff,lL,lG];refine⟨⟨U.1,by simp,λx O y ah e=>?_⟩,λq K=>?_⟩;obtain⟨q,K,rfl⟩:=mr.1 O;simp at ah;subst ah;exact ag q K e
  .rcases lm.1 K with K | K
   .refine⟨?_,(U.2 q K).2⟩;have:=(U.2 q K).1;unfold plus at this
    rwa[d7 (ag q K)] at this
   .simp at K;subst K;exact⟨am,an⟩
 let⟨ao,ap⟩:=HH (seg':=[(bk,o)]) Y aa;refine⟨?_,ap⟩;rw[← ao,Z];unfold BV Ah mk;congr 1
 .funext x;show(if AL [bk] x=true then E x else plus E bk o x)=E x
  by_cases O:x=bk;subst O;simp[AL];simp[AL,O,plus]
 .funext x;show(if AL [bk] x=true then(Ah E H S).H x else AM S'.flatten H x)=AM (S'.flatten++ [(bk,o)]) H x
  have aq:AM (S'.flatten++ [(bk,o)]) H=AM ([(bk,o)]++S'.flatten) H:=KL (by rw[Z] at aa;exact aa) f6;rw[aq];by_cases O:x=bk;subst O;simp only[AL,List.contains_cons,beq_self_eq_true,Bool.true_or,lQ,lX,lx,AM];rw[al];show AM ((S.set jp []).flatten++ [(x,o)]) H x=_;rw[show AM ((S.set jp []).flatten++ [(x,o)]) H=AM ([(x,o)]++(S.set jp []).flatten) H from KL ab f6];simp[AM];simp[AL,O,AM]
end
theorem OL.Yy{e:TypeId}{pp:Rp α}{E H:LH}{S:List Seg}{a:Option Addr}{xs:List α}(U:OL e pp E0 a c seg xs)(aa:An E H S)(ab:S[j]?=some seg):∃wss:List (Lv_),GR (Ah E H S) (.slice a xs.length c) pp.n wss.flatten/\wss.length=xs.length/\∀(i:Nat) x ws,xs[i]?=some x->wss[i]?=some ws->pp.r E0 ws x:=by
 obtain⟨wss,U,ae,ag⟩:=U;refine⟨wss,?_,ae,ag⟩;rcases U with⟨rfl,ah,Z,Y,K⟩ | ⟨bk,f,rfl,rfl,Z,Y,K⟩;exact⟨ah,K⟩
 .have hle:xs.length*pp.n<=f.size:=by rw[Z];exact lz _ Y
  refine⟨.inl V,by rw[K];simp[hle],Y,λq w O=>?_⟩;rw[K,l5] at O;split at O;refine Be aa ab ?_;simpa using O;cases O
section
variable {x:Operand}
theorem VQ{ρ:Operand->Value}{K:Next->St->Prop}{pp:Rp α}{t1:TypeId}{ao:Nat}{a:Option Addr}{xs ys ap:List α}{z:Value}(j:Nat)(al:CJ xs ys=some ap)
  (aD:ρ x=.slice a xs.length c) (aE:ρ y=.slice ax ys.length cx) (aF:ats[0]?=some t) (aG:ats[1]?=some t1) (aH:P.underlying t=some (.slice e)) (aI:P.underlying t1=some (.slice e)) (aJ:A5 P e=some pp.n) (hb:Ew P e=some ao) (aK:zeroOf P e=some z) (aL:z.cells.size=pp.n)
  (aM:0<ao) (aN:ao<=127) (aj:OL e pp E0 a c seg xs) (aO:∃Z:List (Lv_),GR (Ah E H S) (.slice ax ys.length cx) pp.n Z.flatten/\Z.length=ys.length/\∀(i:Nat) x ws,ys[i]?=some x->Z[i]?=some ws->pp.r E0 ws x) (aP:An E H S) (ay:S[j]?=some seg)
  (h:∀Y O g seg',OL e pp E0 Y O seg' ap->An E H (S.set j (g++seg'))->K (.value (.slice Y ap.length O)) (Ah E H (S.set j (g++seg')))):
  lp P (execOp ρ ⟨d,.call ⟨.builtin .append,#[x,y],ats⟩,ty,p,af,g⟩) (Ah E H S) K (λ_ _=>False):=by
 unfold CJ at al;split at al
 rotate_left
 .cases al
 rename_i aQ;cases al;obtain⟨Z,az,am,aq⟩:=aO;obtain⟨wss,aj,aA,aR⟩:=aj;let⟨aS,ar⟩:=FU aP ay;have aT:=Ic am aq;have aU:∀w∈Z.flatten,BX w=true:=λw hw=>by
  obtain⟨us,aV,hw⟩:=mt.1 hw;let⟨q,aB⟩:=lw.1 aV;have aW:q<ys.length:=by rw[← am];exact(d0.1 aB).1
  exact pp.one (aq q _ us (d3 aW) aB) w hw
 have hlen:(xs++ys).length=xs.length+ys.length:=by simp
 rw[aS] at az ⊢;rw[KI,aD,aE];have au:∀{Y O seg'},GS e pp.n Y (xs.length+ys.length) O seg' (wss.flatten++Z.flatten)->OL e pp E0 Y O seg' (xs++ys):=λaX=>
  ⟨wss++Z,by rw[hlen,mf];exact aX,by simp[aA,am],NX aA aR aq⟩
 have fin:∀Y O g seg',OL e pp E0 Y O seg' (xs++ys)->Nd E H ((S.set j []).flatten++(g++seg'))->K (.value (.slice Y (xs.length+ys.length) O)) (mk E H ((S.set j []).flatten++(g++seg'))):=λY O g seg' aY ab=>by
  let⟨aZ,a0⟩:=HH ay ab;rw[aZ];have:=h Y O g seg' aY a0;rw[hlen] at this;exact this
 have a1:Ng ((S.set j []).flatten++seg) (S.set j []).flatten.length e pp.n a xs.length c wss.flatten:=by
  rcases aj with⟨U,aa,ak,ag,ah⟩ | ⟨bk,f,U,aa,ak,ag,ah⟩;exact .inl ⟨U,aa,ak,ah⟩;refine .inr ⟨bk,f,U,?_,ak,ag,ah⟩;subst aa;simp
 refine Av _ _ (N9 (pl:=(S.set j []).flatten.length) aF aG aI aH aJ hb aK aL ar a1 az aU aM aQ aN ?_ ?_ ?_)
 .intro bk f ae an a8 a9 a2 av aw ab;rcases aj with⟨U,_⟩ | ⟨ai,f0,U,aa,ak,ag,ah⟩;rw[U] at an;cases an
  .subst aa;have a3:ai=bk:=by rw[U] at an;simpa using an
   subst a3;have a4:((S.set j []).flatten++ [(ai,Obj.cells f0 e (0,0))]).set (S.set j []).flatten.length (ai,.cells ae e (0,0))=(S.set j []).flatten++ [(ai,.cells ae e (0,0))]:=HE _ _ _ _;rw[a4] at ab ⊢;exact fin a c [] _ (au (.inr ⟨ai,ae,U,V,av,a2,aw.symm⟩)) ab
 intro aC hm;rcases aj with⟨U,aa,ak,ag,ah⟩ | ⟨ai,f0,U,_⟩;have a5:Z.flatten=[]:=lD (by rw[L8 aT,am,hm];simp);have:=fin none 0 [] [] (au (by rw[aa,hm,ah,a5];exact GS.nil)) (by rw[ag] at ar;simpa using ar);rw[aa,hm] at this;rw[ag];simp only[lf] at this ⊢;exact this;rw[U] at aC;cases aC;intro r ae O a6 av aw ab;have a7:(S.set j []).flatten++seg++ [(r,Obj.cells ae e (0,0))]=(S.set j []).flatten++(seg++ [(r,.cells ae e (0,0))]):=ls _ _ _;rw[a7] at ab ⊢;exact fin (some ⟨r,0,none⟩) O seg _ (au (.inr ⟨r,ae,V,V,av,a6,aw.symm⟩)) ab
theorem VX{ρ:Operand->Value}{K:Next->St->Prop}{pp:Rp α}{t1:TypeId}{id:Nat}{a:Option Addr}{Y:Seg}{xs ys U:List α}{z:Value}(j ae:Nat)(ag:CJ xs ys=some U)
  (ah:ρ x=.slice a xs.length c) (ai:ρ y=.slice ax ys.length cx) (aj:ats[0]?=some t) (ak:ats[1]?=some t1) (al:P.underlying t=some (.slice e)) (am:P.underlying t1=some (.slice e)) (an:A5 P e=some pp.n) (hb:Ew P e=some id) (ao:zeroOf P e=some z) (ap:z.cells.size=pp.n)
  (aq:0<id) (ar:id<=127) (au:OL e pp E0 a c seg xs) (av:OL e pp E0 ax cx Y ys) (Z:An E H S) (aw:S[j]?=some seg) (ay:S[ae]?=some Y)
  (h:∀aa ab g seg',OL e pp E0 aa ab seg' U->An E H (S.set j (g++seg'))->K (.value (.slice aa U.length ab)) (Ah E H (S.set j (g++seg')))):
  lp P (execOp ρ ⟨d,.call ⟨.builtin .append,#[x,y],ats⟩,ty,p,af,g⟩) (Ah E H S) K (λ_ _=>False):=
 VQ j ag ah ai aj ak al am an hb ao ap aq ar au (av.Yy Z ay) Z aw h
end
section
variable {b:Frame}{n m fuel:Nat}
variable {x:Operand}{v:Value}{i:Nat}
theorem Take.A2{bk:Nat}{o:Obj}(O:An E H S)(U:S[jp]?=some [(bk,o)])(hi:ops[i]?=some oi)(K:(!CQ oi.op&&A6 n oi.dst)=true)(hw:AQ L ops oi=some true)
  (h:∀ρ,Ed L ρ->An (plus E bk o) H (S.set jp [])->lp P (execOp ρ oi) (Ah (plus E bk o) H (S.set jp [])) (λY s'=>∃v S',Y=.value v/\s'=Ah (plus E bk o) H S'/\An (plus E bk o) H S'/\S'[jp]?=some []/\
   (An E H (S'.set jp [(bk,o)])->AI J Q b n ds ops k cs m (AL [bk]) fuel (AV listed i) (Az L oi.dst v) (Ah E H (S'.set jp [(bk,o)])))) (λ_ _=>False)):
  Take J Q b n ds ops k cs m (AL [bk]) fuel listed L (Ah E H S) i:=by
 simp only[f5] at K;refine⟨oi,hi,K.1,K.2,hw,λρ Z=>?_⟩;let⟨aa,ab⟩:=VR O U;rw[aa];refine CH _ (h ρ Z ab) ?_ (λ_ _ h=>h);rintro Y s' ⟨v,S',rfl,rfl,ae,ag,ah⟩;let⟨ai,aj⟩:=Tm O U ae ag;show AI J Q b n ds ops k cs m (AL [bk]) fuel (AV listed i) (Az L oi.dst v) (BV (AL [bk]) (Ah E H S) (Ah (plus E bk o) H S'));rw[ai];exact ah aj
theorem Take.lit{bk:Nat}{o:Obj}{pp:Rp α}{len:Nat}(vs:Lv_){z:Value}(xs:List α)(Z:An E H S)(O:S[jp]?=some [(bk,o)])
  (aa:ops[i]?=some ⟨d,.buildSlice t len K,ty,p,af,g⟩) (hw:AQ L ops ⟨d,.buildSlice t len K,ty,p,af,g⟩=some true) (ab:A6 n d=true)
  (ae:P.underlying t=some (.slice e)) (ag:A5 P e=some pp.n) (ah:zeroOf P e=some z) (ai:decide (0<len*pp.n/\len*pp.n<=2^24)=true)
  (aj:K.toList.mapM (λq=>(ev L q.2).map λv=>(q.1,v))=some ((vs.zipIdx 0).map λq=>(q.2,q.1)))
  (ak:vs.length=len) (al:xs.length=len) (am:IS pp E xs vs)
  (h:∀r seg,OL e pp E (some ⟨r,0,none⟩) len seg xs->An E H (S++ [seg])->AI J Q b n ds ops k cs m (AL [bk]) fuel (AV listed i) (Az L d (.slice (some ⟨r,0,none⟩) xs.length len)) (Ah E H (S++ [seg]))):
  Take J Q b n ds ops k cs m (AL [bk]) fuel listed L (Ah E H S) i:=by
 have U:jp<S.length:=(d0.1 O).1;refine Take.A2 Z O aa (by simp[CQ,ab]) hw λρ an ao=>OO an vs xs ae ag ah ai aj ak al am ao λr seg ap aq=>⟨_,S.set jp []++ [seg],V,V,aq,by rw[lg (by simpa using U)];simp[U],λY=>?_⟩;have ar:(S.set jp []++ [seg]).set jp [(bk,o)]=S++ [seg]:=by
  rw[List.set_append_left _ _ (by simpa using U),ns];congr 1;apply lF;intro q;rw[mF];split;rename_i e;subst e;rw[O];rfl
 rw[ar] at Y ⊢;exact h r seg ap Y
theorem Take.app{bk:Nat}{o:Obj}{pp:Rp α}{t1:TypeId}{id:Nat}{a:Option Addr}{ag:Seg}{xs ys aa:List α}{z:Value}(j K:Nat)(aj:An E H S)(ab:S[jp]?=some [(bk,o)])(ak:CJ xs ys=some aa)
  (al:ops[i]?=some ⟨d,.call ⟨.builtin .append,#[x,y],ats⟩,ty,p,af,g⟩) (hw:AQ L ops ⟨d,.call ⟨.builtin .append,#[x,y],ats⟩,ty,p,af,g⟩=some true) (am:A6 n d=true)
  (an:ev L x=some (.slice a xs.length c)) (ao:ev L y=some (.slice ax ys.length cx)) (ap:ats[0]?=some t) (aq:ats[1]?=some t1) (ar:P.underlying t=some (.slice e)) (au:P.underlying t1=some (.slice e)) (av:A5 P e=some pp.n) (hb:Ew P e=some id) (aw:zeroOf P e=some z) (ay:z.cells.size=pp.n)
  (az:0<id) (aA:id<=127) (aB:OL e pp E a c seg xs) (aC:OL e pp E ax cx ag ys) (aD:S[j]?=some seg) (aE:S[K]?=some ag) (aF:(j==jp)=false) (aG:(K==jp)=false)
  (h:∀O U g seg',OL e pp E O U seg' aa->An E H (S.set j (g++seg'))->AI J Q b n ds ops k cs m (AL [bk]) fuel (AV listed i) (Az L d (.slice O aa.length U)) (Ah E H (S.set j (g++seg')))):
  Take J Q b n ds ops k cs m (AL [bk]) fuel listed L (Ah E H S) i:=by
 have aH:jp<S.length:=(d0.1 ab).1;have ae:j≠jp:=by simpa using aF
 have aI:K≠jp:=by simpa using aG
 refine Take.A2 aj ab al (by simp[CQ,am]) hw λρ ah aJ=>VX j K ak (ah _ _ an) (ah _ _ ao) ap aq ar au av hb aw ay az aA aB aC aJ (by rw[l7 (lu ae)];exact aD) (by rw[l7 (lu aI)];exact aE) λO U Y seg' aK aL=>⟨_,(S.set jp []).set j (Y++seg'),V,V,aL,by rw[l7 ae];simp[aH],λai=>?_⟩;have aM:((S.set jp []).set j (Y++seg')).set jp [(bk,o)]=S.set j (Y++seg'):=by
  rw[nJ _ _ ae,ns];congr 1;apply lF;intro q;rw[mF];split;rename_i e;subst e;rw[ab];rfl
 rw[aM] at ai ⊢;exact h O U Y seg' aK ai
end
section
variable {b:Frame}{n m fuel:Nat}
variable {x:Operand}{v:Value}{i:Nat}
theorem Take.LK(hi:ops[i]?=some oi)(K:(!CQ oi.op&&A6 n oi.dst)=true)(hw:AQ L ops oi=some true)
  (h:∀ρ,Ed L ρ->lp P (execOp ρ oi) s (λO s'=>match O with
   | .value v=>AI J Q b n ds ops k cs m Cn fuel (AV listed i) (Az L oi.dst v) s'
   | .skip=>AI J Q b n ds ops k cs m Cn fuel (AV listed i) (Az L oi.dst undef) s'
   | _=>False) (λ_ _=>False)):Take J Q b n ds ops k cs m Cn fuel listed L s i:=by
 simp only[f5] at K
 refine⟨oi,hi,K.1,K.2,hw,λρ Y=>CH _ (h ρ Y) ?_ (λ_ _ h=>h)⟩
 intro O s' U
 cases O with
 | value v=>exact U
 | skip=>exact U
 | _=>exact U.elim
theorem Take.DF{pp:Rp α}{len:Nat}(vs:Lv_){z:Value}(xs:List α)(O:An E H S)
  (U:ops[i]?=some ⟨d,.buildSlice t len K,ty,p,af,g⟩) (hw:AQ L ops ⟨d,.buildSlice t len K,ty,p,af,g⟩=some true) (Y:A6 n d=true)
  (Z:P.underlying t=some (.slice e)) (aa:A5 P e=some pp.n) (ab:zeroOf P e=some z) (ae:decide (0<len*pp.n/\len*pp.n<=2^24)=true)
  (ag:K.toList.mapM (λq=>(ev L q.2).map λv=>(q.1,v))=some ((vs.zipIdx 0).map λq=>(q.2,q.1)))
  (ah:vs.length=len) (ai:xs.length=len) (aj:IS pp E xs vs)
  (h:∀r seg,OL e pp E (some ⟨r,0,none⟩) len seg xs->An E H (S++ [seg])->AI J Q b n ds ops k cs m Cn fuel (AV listed i) (Az L d (.slice (some ⟨r,0,none⟩) xs.length len)) (Ah E H (S++ [seg]))):
  Take J Q b n ds ops k cs m Cn fuel listed L (Ah E H S) i:=
 Take.LK U (by simp[CQ,Y]) hw λρ ak=>OO ak vs xs Z aa ab ae ag ah ai aj O λr seg al am=>h r seg al am
theorem Take.EW{z:Value}(O:An E H S)(U:ops[i]?=some ⟨d,.alloc e,ty,p,af,g⟩)(hw:AQ L ops ⟨d,.alloc e,ty,p,af,g⟩=some true)(Y:A6 n d=true)(Z:zeroOf P e=some z)
  (h:∀r,An E H (S++ [[(r,.cells z.cells e (0,0))]])->AI J Q b n ds ops k cs m Cn fuel (AV listed i) (Az L d (.pointer (some ⟨r,0,none⟩))) (Ah E H (S++ [[(r,.cells z.cells e (0,0))]]))):
  Take J Q b n ds ops k cs m Cn fuel listed L (Ah E H S) i:=
 Take.LK U (by simp[CQ,Y]) hw λρ _=>by
  show lp P (do pure (Next.value (← Instr.alloc e true (.tuple #[])))) _ _ _
  refine Av _ _ ?_
  unfold Instr.alloc
  refine Av _ _ (Fh Z ?_)
  refine Av _ _ (HA O λr K=>?_)
  rw[(EU K).1]
  exact h r (EU K).2
end
theorem BC{pp:Rp α}{E:LH}{ws:Lv_}{xs:List α}(K:(rA kk pp).r E ws xs):ws.length=kk*pp.n:=(rA kk pp).len K
theorem DR{pp:Rp α}{E:LH}{ws:Lv_}{xs:List α}{m:Int}{x:α}(O:(rA kk pp).r E ws xs)(hm:ix xs m=some x):∃us,pp.r E us x/\0<=m/\m<kk/\(∀j w,us[j]?=some w->ws[m.toNat*pp.n+j]?=some w):=by
 obtain⟨U,wss,rfl,Y,K⟩:=O;obtain⟨m,rfl,hm⟩:=Ig hm;have aa:m<xs.length:=(d0.1 hm).1;have hw:wss[m]?=some wss[m]:=d3 (by omega);exact⟨wss[m],K m x _ hm hw,by omega,by omega,λj w Z=>I5 (Ic (Y.trans U.symm) K) hw j w Z⟩
section
variable {b:Frame}{n:Nat}
variable {x:Operand}{i:Nat}
theorem Ej{pp:Rp α}{a:Addr}{ws:Lv_}{xs:List α}(K:(rA kk pp).r E ws xs)(O:C8 P t=some true)(U:A5 P t=some (kk*pp.n))(Y:ρ x=.pointer (some a))(h:∀j v,ws[j]?=some v->s.cell? (a.add j)=some v):Yl P ⟨d,.load t x,ty,p,af,g⟩ ρ s (.agg ws.toArray):=
 HC O (by rw[BC K];exact U) Y h
theorem Xi{pp:Rp α}{ws:Lv_}{xs:List α}{xv:α}{m:Int}{wr:Bool}(Y:(rA kk pp).r E ws xs)(hm:ix xs m=some xv)
  (ai:ops[i]?=some ⟨d,.index t x y,ty,p,af,g⟩) (hw:AQ L ops ⟨d,.index t x y,ty,p,af,g⟩=some true) (aj:BH b n ⟨d,.index t x y,ty,p,af,g⟩=true)
  (ak:ev L x=some (.agg ws.toArray)) (al:ev L y=some (.int kd m)) (am:P.underlying t=some (.array kk e)) (Z:A5 P e=some pp.n) (an:C8 P e=some wr)
  (h:∀us,pp.r E us xv->JL J Q b n (Az L d (if wr then .agg us.toArray else us.headD undef)) ds (.inRegion ops rest::k) cs s) (ao:wr=false->pp.n=1):
  JL J Q b n L ds (.inRegion ops (i::rest)::k) cs s:=by
 let⟨us,aa,ap,aq,ab⟩:=DR Y hm;have hlen:=pp.len aa;have ar:=BC Y;refine Aj ai hw aj (λρ ae=>?_) (h us aa);refine EJ (sm:=Instr.index t (ρ x) (ρ y)) V ?_;rw[ae _ _ ak,ae _ _ al];unfold Instr.index;simp only[asIntOf,GB];refine Av (x:=underlying t) _ (B6 am ?_);simp only[ap,aq,and_self,lQ];refine Av (x:=Go.sizeOf e) _ (DO Z ?_);unfold Go.part;refine Av (x:=isAgg e) _ (Mk an ?_);have av:m.toNat*pp.n+pp.n<=ws.length:=by
  rw[ar];have:(m.toNat+1)*pp.n<=kk*pp.n:=lz _ (by omega);rw[lU] at this;exact this
 cases wr with
 | true=>
  simp only[lQ];refine Av (x:=Go.sizeOf e) _ (DO Z ?_);have au:ws.toArray.extract (m.toNat*pp.n) (m.toNat*pp.n+pp.n)=us.toArray:=by
   apply mw;intro j;by_cases ag:j<us.length;have U:=ab j us[j] (d3 ag);simp only[no,mE,lA];rw[d5 (by omega),U];simp[ag];rw[lk (by simp;omega),lk (by simp;omega)]
  rw[au];exact⟨V,V⟩
 | false=>
  have ah:=ao V;obtain⟨w,rfl⟩:∃w,us=[w]:=by
   match us,hlen with
   | [w],_=>exact⟨w,rfl⟩
   | [],K=>rw[ah] at K;cases K
   | _::_::_,K=>rw[ah] at K;simp at K
  have U:=ab 0 w V;simp only[ld,lK,lA];rw[lT] at U;rw[U];exact⟨V,V⟩
end
def Hf(S:List Seg):List Nat->Prop
 | []=>True
 | bk::bks=>(∃(j:Nat) (o:Obj),S[j]?=some [(bk,o)])/\Hf S bks
theorem Hf.mem{S:List Seg}:∀{bks:List Nat},Hf S bks->∀bk∈bks,∃(j:Nat) (o:Obj),S[j]?=some [(bk,o)]
 | [],_,_,h=>by cases h
 | b::bks,h,bk,hb=>by
  rcases li.1 hb with rfl | hb;exact h.1;exact h.2.mem bk hb
variable{bks:List Nat}
theorem Hf.free{E H:LH}{S:List Seg}(h:Hf S bks)(K:An E H S):∀x,AL bks x=true->E x=none:=λx O=>by
 obtain⟨j,o,U⟩:=h.mem x (by simpa [AL] using O)
 exact M1 K U
variable{s':St}
section
variable {b:Frame}{n m fuel:Nat}
variable {x:Operand}{v:Value}{i:Nat}
theorem Um(m:Nat)(bks:List Nat){id:Nat}(U:Hf S bks)(Y:An E H S)(hm:P.follows .mixedOrders=true)(K:(b.kind != .early)=true)(O:CW ops m=true)
  (h:CW ops m=true->AI J Q b n ds ops k cs m (AL bks) ops.size (Array.replicate ops.size false) L (Ah E H S)):JL J Q b n L ds (.code (.region id ops true)::k) cs (Ah E H S):=
 Oh m (AL bks) V hm K (h O)
theorem Mj{bk o:Nat}{c:Av_}{f:Nat×Nat}(j:Nat)(K:An E H S)(O:S[j]?=some [(bk,.cells c e f)])(U:AL bks bk=true)(Y:∀x o,(A2 (AL bks) (Ah E H S)).E x=some o->s'.E x=some o)(hw:c[o]?=some w):s'.cell? ⟨bk,o,none⟩=some w:=by
 have Z:(A2 (AL bks) (Ah E H S)).E bk=some (.cells c e f):=by
  show(if AL bks bk then(Ah E H S).get bk else E bk)=_
  rw[d5 U];exact Ef (i:=0) K O V
 have aa:=Y _ _ Z;unfold St.cell? St.get;rw[aa];exact hw
theorem OZ(O:An E H S)(U:∀x o,(A2 (AL bks) (Ah E H S)).E x=some o->s'.E x=some o)(Y:Hf S bks):∀x o,E x=some o->s'.E x=some o:=λx o K=>U x o (by
 show(if AL bks x then(Ah E H S).get x else E x)=some o
 rw[d7 (λhd=>by rw[Y.free O x hd] at K;cases K)];exact K)
end
theorem UD{P:Program}{s:St}{ρ:Operand->Value}{x y:Operand}{d:Option Tmp}{t ty e:TypeId}{p:String}{af:Ae_}{g:On_}{kd:IntKind}{xs:List α}{xv:α}{m:Int}{bk id:Nat}(hm:ix xs m=some xv)(O:P.underlying t=some (.slice e))(U:A5 P e=some id)(Y:ρ x=.slice (some ⟨bk,0,none⟩) xs.length c)(Z:ρ y=.int kd m):
  Yl P ⟨d,.indexAddr t x y,ty,p,af,g⟩ ρ s (.pointer (some ⟨bk,m.toNat*id,none⟩)):=by
 obtain⟨m,rfl,hm⟩:=Ig hm;have aa:m<xs.length:=(d0.1 hm).1;have:=Mh (P:=P) (s:=s) (d:=d) (ty:=ty) (p:=p) (af:=af) (g:=g) O U Y Z ⟨by omega,by omega⟩;rw[CV rfl] at this;simpa using this
def Dw(ws:Lv_)(q:Nat)(us:Lv_):Lv_:=(Bx ws.toArray q us).toList
theorem L6(ws:Lv_)(q:Nat)(us:Lv_):(Dw ws q us).length=ws.length:=by unfold Dw;rw[Array.length_toList,L9];simp
theorem I7{ws us:Lv_}{q:Nat}(h:q+us.length<=ws.length)(j:Nat):(Dw ws q us)[j]?=if q<=j/\j<q+us.length then us[j - q]? else ws[j]? :=by
 unfold Dw;rw[lN,P2 us _ q (by simpa using h)];simp
theorem PV{ws us:Lv_}{q:Nat}(h:q+us.length<=ws.length):Bx (l++ws).toArray (l.length+q) us=(l++Dw ws q us).toArray:=by
 apply mw;intro j;rw[P2 us _ _ (by simp;omega)];simp only[lA];by_cases O:l.length+q<=j/\j<l.length+q+us.length;rw[d5 O,k8 (by omega),I7 h,d5 (by omega)];congr 1;omega;rw[d7 O];rcases lb j l.length with K | K;rw[lg K,lg K];rw[k8 K,k8 K,I7 h,d7 (by omega)]
theorem H8{ws us:Lv_}(h:us.length=ws.length):Dw ws 0 us=us:=by
 apply lF;intro j;rw[I7 (by omega)];split;simp;rename_i K;rw[lB (by omega),lB (by omega)]
theorem Fl{E H:LH}{S:List Seg}{bk:Nat}{ws:Lv_}{e:TypeId}{f:Nat×Nat}(j:Nat)(K:An E H S)(O:S[j]?=some [(bk,.cells (l++ws).toArray e f)]):∀q v,ws[q]?=some v->(Ah E H S).cell? (Addr.add ⟨bk,l.length,none⟩ q)=some v:=λq v U=>by
 rw[CV rfl]
 refine Be K O ?_
 simp only[lA]
 rw[k8 (by omega)]
 rw[show l.length+q - l.length=q by omega];exact U
theorem HB{E H:LH}{S:List Seg}{bk o:Nat}{ws:Lv_}{e:TypeId}{f:Nat×Nat}(j:Nat)(K:An E H S)(O:S[j]?=some [(bk,.cells (l++ws).toArray e f)])(U:ws[o]?=some w):(Ah E H S).cell? ⟨bk,l.length+o,none⟩=some w:=by
 have:=Fl j K O o w U
 rwa[CV rfl] at this
theorem HI{pp:Rp α}{E:LH}{ws us:Lv_}{xs:List α}{m:Int}{x y:α}(Z:(rA kk pp).r E ws xs)(hm:ix xs m=some x)(hu:pp.r E us y):(rA kk pp).r E (Dw ws (m.toNat*pp.n) us) (xs.set m.toNat y)/\m.toNat*pp.n+us.length<=ws.length:=by
 have ak:=BC Z;obtain⟨aa,wss,rfl,ab,ae⟩:=Z;obtain⟨m,rfl,hm⟩:=Ig hm;have al:m<xs.length:=(d0.1 hm).1;have ag:=pp.len hu;have am:=Ic (ab.trans aa.symm) ae;have ah:m*pp.n+us.length<=wss.flatten.length:=by
  rw[ak,ag];have:(m+1)*pp.n<=kk*pp.n:=lz _ (by omega);rw[lU] at this;exact this
 simp only[m0];refine⟨⟨by simpa using aa,wss.set m us,?_,by simpa using ab,λi an ao O U=>?_⟩,ah⟩
 .apply lF;intro j;rw[I7 ah];have key:∀(wss:List (Lv_)) (m:Nat) (hm:m<wss.length),(∀ws∈wss,ws.length=pp.n)->∀j,(wss.set m us).flatten[j]?=if m*pp.n<=j/\j<m*pp.n+us.length then us[j - m*pp.n]? else wss.flatten[j]? :=by
   intro wss
   induction wss with
   | nil=>intro m hm;simp at hm
   | cons vs wss ap=>
    intro m hm ai j;have aq:vs.length=pp.n:=ai vs (by simp);cases m with
    | zero=>
     simp only[mS,lh,mC,mz,true_and,mD,mO];split;rename_i K;rw[lg K];rename_i K;rw[k8 (by omega),k8 (by omega),ag,aq]
    | succ m=>
     simp only[na,lh];have Y:(m+1)*pp.n=m*pp.n+pp.n:=lU _ _;rcases lb j vs.length with K | K;rw[lg K,lg K,d7 (by omega)];rw[k8 K,k8 K,ap m (by simpa using hm) (λws ar=>ai ws (lc _ ar))];by_cases aj:m*pp.n<=j - vs.length/\j - vs.length<m*pp.n+us.length;rw[d5 aj,d5 (by omega)];congr 1;omega;rw[d7 aj,d7 (by omega)]
  exact(key wss m (by omega) am j).symm
 .rw [mF] at O U;by_cases Y:m=i;subst Y;rw[d5 rfl,d5 al] at O;rw[d5 rfl,d5 (by omega)] at U;cases O;cases U;exact hu;rw[d7 Y] at O U;exact ae i an ao O U
theorem Gm{pp:Rp α}{E:LH}{x:α}(h:pp.r E [w] x):(rA kk pp).r E (List.replicate kk w) (List.replicate kk x):=by
 refine⟨by simp,List.replicate kk [w],?_,by simp,λi y us K hu=>?_⟩
 .induction kk with
  | zero=>rfl
  | succ k O=>rw[nA,nA,lh,← O];rfl
 .have U:=lY (ll K);have e2:=lY (ll hu);subst U e2;exact h
section
variable {b:Frame}{n:Nat}
variable {x:Operand}{i:Nat}
theorem Df{pp:Rp α}{ws:Lv_}{xs:List α}{xv:α}{m:Int}{bk o:Nat}(K:(rA kk pp).r E ws xs)(hm:ix xs m=some xv)(O:P.underlying t=some (.array kk e))(U:A5 P e=some pp.n)(Y:ρ x=.pointer (some ⟨bk,o,none⟩))(Z:ρ y=.int kd m):
  Yl P ⟨d,.indexAddr t x y,ty,p,af,g⟩ ρ s (.pointer (some ⟨bk,o+m.toNat*pp.n,none⟩)):=by
 let⟨us,ae,aa,ab,ag⟩:=DR K hm;have:=Qh (P:=P) (s:=s) (d:=d) (ty:=ty) (p:=p) (af:=af) (g:=g) O U Y Z ⟨aa,ab⟩;rw[CV rfl] at this;exact this
theorem ES{bk o:Nat}{ws us:Lv_}{v:Value}(j:Nat)(U:ops[i]?=some ⟨d,.store t x y,ty,p,af,g⟩)(hw:AQ L ops ⟨d,.store t x y,ty,p,af,g⟩=some true)(Y:BH b n ⟨d,.store t x y,ty,p,af,g⟩=true)(Z:An E H S)
  (aa:ev L x=some (.pointer (some ⟨bk,l.length+o,none⟩))) (ab:ev L y=some v) (K:v.cells.toList=us) (ae:A5 P t=some us.length) (ag:∀u∈us,BX u=true) (ah:S[j]?=some [(bk,.cells (l++ws).toArray e (0,0))]) (hle:o+us.length<=ws.length)
  (h:An E H (S.set j [(bk,.cells (l++Dw ws o us).toArray e (0,0))])->JL J Q b n (Az L d undef) ds (.inRegion ops rest::k) cs (Ah E H (S.set j [(bk,.cells (l++Dw ws o us).toArray e (0,0))]))):
  JL J Q b n L ds (.inRegion ops (i::rest)::k) cs (Ah E H S):=by
 have ai:v.cells.size=us.length:=by rw[← K];simp
 refine JS.store (v:=v) (off:=l.length+o) j U hw Y Z aa ab (by rw[ai];exact ae) (by rw[K];exact ag) ah (by simp;omega) λO=>?_;rw[K,PV hle] at O ⊢;exact h O
end
section
variable {x:Operand}{v:Value}
theorem XH{n:Nat}{kd:IntKind}{a b:Int}(K:P.underlying t=some (.int kd)){Q:Bool->St->Prop}(k:Q (a==b) s):lp P (Op.equalIn (n+1) t (.int kd a) (.int kd b)) s Q X:=by
 unfold Op.equalIn;refine Av _ _ (B6 K ?_);simp only[lQ];exact k
end
theorem UT{E H:LH}{S:List Seg}{bk:Nat}{ws:Lv_}{e:TypeId}{f:Nat×Nat}(j:Nat)(K:An E H S)(O:S[j]?=some [(bk,.cells (l++ws).toArray e f)])(U:AL bks bk=true)(Y:∀x o,(A2 (AL bks) (Ah E H S)).E x=some o->s'.E x=some o):∀q v,ws[q]?=some v->s'.cell? (Addr.add ⟨bk,l.length,none⟩ q)=some v:=λq v Z=>by
 rw[CV rfl]
 refine Mj j K O U Y ?_
 simp only[lA]
 rw[k8 (by omega)]
 rw[show l.length+q - l.length=q by omega];exact Z
variable {xt t1 t2:TypeId}{o:Option (Int×Option Int)}
section
variable {x:Operand}{v:Value}
end
def Pg{P:Program}(J:Judge P)(v:Value)(args:Av_)(s:St)(R:Value->St->Prop):Prop:=
 ∀(Q:Gs_) (c:Frame) (cs:Lf_),(∀w s',R w s'->J.ok Q (G (c.finish w) cs) s')->
  lp P (do let d ← Deferred.ofValue v args;invoke d.target d.args) s (λK s'=>match K with
   | .enter f a=>J.ok Q (G (Frame.enter P f a .normal) (c::cs)) s'
   | .round l f tm as O=>J.ok Q (G (Frame.round l f tm as O .normal) (c::cs)) s'
   | _=>False) (λ_ _=>False)
def Co{P:Program}(J:Judge P)(v:Value)(args:Lv_)(E:LH)(B:Seg)(R:Value->LH->Seg->Prop):Prop:=
 ∀H,Nd E H B->Pg J v args.toArray (mk E H B) (λv s'=>∃E' B',Le E E'/\R v E' B'/\Nd E' H B'/\s'=mk E' H B')
section
variable {b:Frame}{n i:Nat}
theorem Co.ofFn{f:FuncId}{caps vs:Lv_}{B:Seg}(hb:Cz P f=true)(h:AO J f (vs++caps) E B R):Co J (.func (.func f) #[] caps.toArray) vs E B R:=λH K Q c cs O=>by
 simp only[Deferred.ofValue,bind,Sem.bind,pure,invoke]
 have e: #[]++vs.toArray++caps.toArray=(vs++caps).toArray:=by simp
 rw[e];exact H2 hb (h H K Q c cs O)
theorem TA{x:Operand}{O:Value}{s:St}{vs:Lv_}{R:Value->St->Prop}
  (Y:ops[i]?=some ⟨d,.call ⟨.value x,args,ats⟩,ty,p,af,g⟩) (hw:AQ L ops ⟨d,.call ⟨.value x,args,ats⟩,ty,p,af,g⟩=some true) (U:((b.kind != .early)&&A6 n d)=true)
  (Z:ev L x=some O) (aa:evs L args.toList=some vs) (ab:Pg J O vs.toArray s R) (ae:∀v s',R v s'->JL J Q b n (Az L d v) ds (.inRegion ops rest::k) cs s'):
  JL J Q b n L ds (.inRegion ops (i::rest)::k) cs s:=λT K=>by
 simp only[f5] at U
 have ag:args.map (A7 T)=vs.toArray:=by
  rw[← ER K.El aa];apply lR;simp
 refine Judge.oper Y (Cd K hw) (by simpa using U.1) (.inr λc ah=>by cases ah) ?_;have hd:lp P (execOp (A7 T) ⟨d,.call ⟨.value x,args,ats⟩,ty,p,af,g⟩) s (upon J Q b T ds ops i rest k cs d) (IN J Q b T ds ops i rest k cs):=by
  have ai:execOp (A7 T) ⟨d,.call ⟨.value x,args,ats⟩,ty,p,af,g⟩=(do let d ← Deferred.ofValue O vs.toArray;invoke d.target d.args):=by
   simp only[execOp,resolve,ag,K.El _ _ Z]
  rw[ai];refine CH _ (ab Q (fr b T ds (.inRegion ops (i::rest)::k)) cs λv s' aj=>?_) (λak s' h=>?_) (λ_ _ h=>h.elim);rw[Ei (o:=⟨d,.call ⟨.value x,args,ats⟩,ty,p,af,g⟩) _ _ _ _ _ Y];exact ae v s' aj _ (K.put U.2 v);cases ak<;>first | exact h | exact h.elim
 exact hd
theorem GG{x:Operand}{O:Value}{vs:Lv_}(j:Nat)
  (ag:Co J O vs E seg R) (ah:ops[i]?=some ⟨d,.call ⟨.value x,args,ats⟩,ty,p,af,g⟩) (hw:AQ L ops ⟨d,.call ⟨.value x,args,ats⟩,ty,p,af,g⟩=some true) (ai:((b.kind != .early)&&A6 n d)=true)
  (K:ev L x=some O) (aj:evs L args.toList=some vs) (U:An E H S) (Y:S[j]?=some seg) (ak:∀v E' seg',Le E E'->R v E' seg'->An E' H (S.set j seg')->JL J Q b n (Az L d v) ds (.inRegion ops rest::k) cs (Ah E' H (S.set j seg'))):
  JL J Q b n L ds (.inRegion ops (i::rest)::k) cs (Ah E H S):=by
 have Z:S.flatten.Perm (seg++(S.set j []).flatten):=(Cl (seg':=seg) Y).1.trans f6;have aa:Nd E H (seg++(S.set j []).flatten):=Nd.perm U Z;have al:Ah E H S=mk E (AM (S.set j []).flatten H) seg:=by
  rw[show Ah E H S=mk E H S.flatten from rfl,C3 U Z];unfold mk;rw[DC]
 rw[al];refine TA ah hw ai K aj (ag _ (Nd.front aa)) ?_;rintro v s' ⟨E',B',hle,am,an,rfl⟩;have e2:mk E' (AM (S.set j []).flatten H) B'=mk E' H (B'++(S.set j []).flatten):=by unfold mk;rw[DC]
 have ao:Nd E H (S.set j []).flatten:=by
  have:=aa;rw[Nd.iff] at this ⊢;rw[lL,lG] at this;exact⟨this.1.2.1,λq ap=>this.2 q (lI _ ap)⟩
 refine MJ V λ⟨w,aq⟩=>?_;have ar:Nd E' H (S.set j []).flatten:=ao.grow λx K=>by
  have au:=aq.d x K;have av:AM B' (AM (S.set j []).flatten H) x=none:=au;exact(FF av).1
 have ab:Nd E' H (B'++(S.set j []).flatten):=Nd.glue an ar;rw[e2];have ae:(B'++(S.set j []).flatten).Perm (S.set j B').flatten:=f6.trans (Cl Y).2.symm;rw[C3 ab ae];exact ak v E' B' hle am (Nd.perm ab ae)
theorem Take.Yz{m fuel:Nat}{listed:Array Bool}{f:FuncId}{vs:Lv_}(ah:Hf S bks)(Z:An E H S)(ai:AO J f vs E [] R)
  (aj:ops[i]?=some ⟨d,.call ⟨.value (.func f),args,ats⟩,ty,p,af,g⟩) (hw:AQ L ops ⟨d,.call ⟨.value (.func f),args,ats⟩,ty,p,af,g⟩=some true) (ak:A6 n d=true) (hb:Cz P f=true) (al:evs L args.toList=some vs)
  (am:∀v E' seg',Le E E'->R v E' seg'->An E' H (S++ [seg'])->AI J Q b n ds ops k cs m (AL bks) fuel (AV listed i) (Az L d v) (Ah E' H (S++ [seg']))):
  Take J Q b n ds ops k cs m (AL bks) fuel listed L (Ah E H S) i:=by
 have an:=DK.Km (ai (AM S.flatten H) trivial) (by rintro v s' ⟨E',B',_,_,_,rfl⟩;rfl);refine⟨_,aj,by simp[CQ],ak,hw,λρ aa=>?_⟩;have ao:args.map ρ=vs.toArray:=by
  rw[← ER aa al];apply lR;simp
 have ap:ρ (.func f)=.func (.func f) #[] #[]:=aa _ _ V;simp only[execOp,resolve,bind,Sem.bind,Deferred.ofValue,ap,pure,invoke];have e: #[]++args.map ρ++ #[]=vs.toArray:=by rw[ao];simp
 rw[e];refine H2 hb ?_;rw[JZ];refine⟨_,an,?_⟩;rintro v aA ⟨⟨E',B',hle,aq,ar,rfl⟩,w,au⟩;have e2:mk E' (AM S.flatten H) B'=mk E' H (B'++S.flatten):=by unfold mk;rw[DC]
 have av:Nd E' H S.flatten:=Nd.grow Z λx O=>by
  have aw:=au.d x O;have U:AM B' (AM S.flatten H) x=none:=aw;exact(FF U).1
 have ab:Nd E' H (B'++S.flatten):=Nd.glue ar av;have ae:(B'++S.flatten).Perm (S++ [B']).flatten:=by rw[Gi];exact f6
 have ag:An E' H (S++ [B']):=Nd.perm ab ae;rw[e2,C3 ab ae];refine⟨V,λx o O=>?_,am v E' B' hle aq ag⟩;by_cases hd:AL bks x=true
 .obtain⟨j,o',Y⟩:=ah.mem x (by simpa [AL] using hd);have U:(Ah E H S).get x=some o':=Ef (i:=0) Z Y V;have ay:j<S.length:=(d0.1 Y).1;have az:(Ah E' H (S++ [B'])).get x=some o':=Ef (i:=0) ag (by rw[lg ay];exact Y) rfl;have K:(if AL bks x then(Ah E H S).get x else E x)=some o:=O
  show(if AL bks x then(Ah E' H (S++ [B'])).get x else E' x)=some o
  rw[d5 hd] at K ⊢;rw[az,← U];exact K
 .have K:(if AL bks x then(Ah E H S).get x else E x)=some o:=O
  show(if AL bks x then(Ah E' H (S++ [B'])).get x else E' x)=some o
  rw[d7 hd] at K ⊢;exact hle _ _ K
theorem Take.CC{m fuel:Nat}{listed:Array Bool}{f:FuncId}{vs:Lv_}(O:An E H S)(U:AO J f vs E [] R)
  (Y:ops[i]?=some ⟨d,.call ⟨.value (.func f),args,ats⟩,ty,p,af,g⟩) (hw:AQ L ops ⟨d,.call ⟨.value (.func f),args,ats⟩,ty,p,af,g⟩=some true) (Z:A6 n d=true) (hb:Cz P f=true) (aa:evs L args.toList=some vs)
  (K:∀v E' seg',Le E E'->R v E' seg'->An E' H (S++ [seg'])->AI J Q b n ds ops k cs m Cn fuel (AV listed i) (Az L d v) (Ah E' H (S++ [seg']))):
  Take J Q b n ds ops k cs m Cn fuel listed L (Ah E H S) i:=by
 have e:AL []=Cn:=by funext x;rfl
 rw[← e] at K ⊢;exact Take.Yz (bks:=[]) trivial O U Y hw Z hb aa K
end
open Go.ConcN (upd upd_ne upd_same)
def Dg:Loc->Option Nat | .cell a=>some a.block | .obj r=>some r | _=>none
structure BQ (t:Trace) (w:World) (N:Nat) (S:Nat->St) (Sh:Nat->Prop):Prop where
 fits:∀i,i<N->Fits (S i) w
 hh:∀i j,i<N->j<N->i≠j->∀b,(S i).H b≠none->(S j).H b=none/\(S j).E b=none
 sh:∀i,i<N->∀b,Sh b->(S i).H b=none/\(S i).E b=none
 Fq:∀b,Sh b->b<w.heap.size
 clean:∀said,¬Race said t
 low:∀op∈t,op.act.low w.heap.size
 kH:∀i,i<N->∀b,(S i).H b≠none->∀x a,touchAt t x=some a->Dg a.loc=some b->Knows t i x
 kE:∀i,i<N->∀b,(S i).E b≠none->∀x a,touchAt t x=some a->Dg a.loc=some b->a.write=true->Knows t i x
theorem Oe{t:Trace}{x:Nat}{a:Touch}{b n:Nat}(Z:∀op∈t,op.act.low n)(h:touchAt t x=some a)(hb:Dg a.loc=some b):b<n:=by
 let⟨op,aa,K⟩:=touch_of h;have O:=Z op (mem_of_getElem? aa);cases U:op.act with
 | access e=>
  rw[U] at K O;simp only[MemAct.touch?,lP] at K;subst K;simp only[MemAct.low] at O;cases Y:e.loc with
  | cell ad=>rw[Y] at O hb;simp only[Dg,lP] at hb;subst hb;exact O
  | obj r=>rw[Y] at O hb;simp only[Dg,lP] at hb;subst hb;exact O
  | _=>rw[Y] at hb;simp[Dg] at hb
 | mark m=>
  rw[U] at K O;cases m<;>simp only[MemAct.touch?] at K<;>first
   | (simp at K;done)
   | (simp only[lP] at K;subst K;simp only[Dg,lP] at hb;subst hb;exact O)
 | _=>rw[U] at K;simp[MemAct.touch?] at K
variable{w':World}
theorem Ml{s:St}{w:World}{e:Event}{a:Touch}{b:Nat}(h:Ev s w w' e)(K:(MemAct.ofEvent e).touch?=some a)(hb:Dg a.loc=some b):
  FV s w w' b a.write:=by
 obtain⟨loc,wr,Y⟩:=e;cases loc with
 | cell ad=>
  obtain⟨O,U⟩:=h;simp only at O;subst O;simp only[MemAct.ofEvent,MemAct.touch?,lP] at K;subst K;simp only[Dg,lP] at hb;subst hb;exact U
 | obj r=>
  obtain⟨O,U⟩:=h;simp only at O;subst O;simp only[MemAct.ofEvent,MemAct.touch?,lP] at K;subst K;simp only[Dg,lP] at hb;subst hb;exact U
 | mark m=>
  cases m<;>simp only[Ev] at h<;>first | exact h.elim | simp[MemAct.ofEvent,MemAct.touch?] at K
 | _=>exact h.elim
theorem W1{s:St}{w:World}{e:Event}(h:Ev s w w' e):(MemAct.ofEvent e).low w'.heap.size:=by
 obtain⟨loc,wr,U⟩:=e;cases loc with
 | cell ad=>obtain⟨K,O⟩:=h;simp only at K;subst K;exact O.1
 | obj r=>obtain⟨K,O⟩:=h;simp only at K;subst K;cases wr<;>exact O.1
 | mark m=>cases m<;>simp only[Ev] at h<;>first | exact h.elim | exact trivial
 | _=>exact h.elim
theorem SL{l:Loc}(h:l.isMemory=true):∃b,Dg l=some b:=by
 cases l<;>simp[Loc.isMemory] at h<;>exact⟨_,rfl⟩
variable{Sh:Nat->Prop}
theorem BQ.own{t:Trace}{w:World}{id:Nat}{S:Nat->St}(h:BQ t w id S Sh){i:Nat}(hi:i<id){fn:FuncId}{pos:String}{es:Array Event}
  (aA:Fits s' w') (Y:Fr (S i) w s' w') (al:∀e∈es,Ev (S i) w w' e):BQ (t++MemOp.ofEvents i fn pos es) w' id (upd S i s') Sh:=by
 have au:∀j,j<id->j≠i->∀b o,((S j).H b=some o∨(S j).E b=some o)->w'.heap[b]?=some o/\(S i).H b=none:=by
  intro j U Z b o K;have hw:w.heap[b]?=some o:=K.elim ((h.fits j U).h b o) ((h.fits j U).e b o);have ae:b<w.heap.size:=by
   rcases lb b w.heap.size with ao | ao;exact ao;simp[lk ao] at hw
  have av:(S i).H b=none:=by
   cases aB:(S i).H b with
   | none=>rfl
   | some u=>
    have:=h.hh i j hi U (lu Z) b (by rw[aB];simp);rcases K with K | K;rw[this.1] at K;cases K;rw[this.2] at K;cases K
  exact⟨by rw[Y.keep b ae av,hw],av⟩
 have am:∀j,j<id->∀b,w.heap.size<=b->(S j).H b=none/\(S j).E b=none:=by
  intro j U b hb;constructor
  .cases O:(S j).H b with
   | none=>rfl
   | some o=>have:=(h.fits j U).h b o O;simp[lk hb] at this
  .cases O:(S j).E b with
   | none=>rfl
   | some o=>have:=(h.fits j U).e b o O;simp[lk hb] at this
 have ag:∀op∈MemOp.ofEvents i fn pos es,op.g=i/\∃e∈es,op.act=MemAct.ofEvent e:=by
  intro op ag;obtain⟨e,he,rfl⟩:=mem_ofEvents ag;exact⟨V,e,he,V⟩
 have hold:∀x a,touchAt t x=some a->touchAt (t++MemOp.ofEvents i fn pos es) x=some a:=by
  intro x a O;let⟨op,K,_⟩:=touch_of O;rw[touchAt_old (lt_size_of_getElem? K)];exact O
 have an:∀x a,touchAt (t++MemOp.ofEvents i fn pos es) x=some a->touchAt t x=some a∨(Knows (t++MemOp.ofEvents i fn pos es) i x/\∃e∈es,(MemAct.ofEvent e).touch?=some a):=by
  intro x a O;let⟨op,K,aw⟩:=touch_of O;rcases getElem?_append_cases K with⟨ae,aC⟩ | ⟨_,aD⟩;left;rw[touchAt_of aC];exact aw;right;let⟨aE,e,he,ai⟩:=ag op aD;exact⟨by have:=knows_own K;rwa[aE] at this,e,he,by rw[← ai];exact aw⟩
 have aF:∀j,j<id->j≠i->∀b,s'.H b≠none->(S j).H b=none/\(S j).E b=none:=by
  intro j U Z b hb;rcases Y.own b hb with O | O;exact h.hh i j hi U (lu Z) b O;exact am j U b O
 have aG:∀j,j<id->j≠i->∀b,(S j).H b≠none->s'.H b=none/\s'.E b=none:=by
  intro j U Z b hb;have aa:=h.hh j i U hi Z b hb;have ae:¬w.heap.size<=b:=λO=>hb (am j U b O).1;constructor
  .cases O:s'.H b with
   | none=>rfl
   | some o=>
    rcases Y.own b (by rw[O];simp) with y | y;exact absurd aa.1 y;exact absurd y ae
  .cases O:s'.E b with
   | none=>rfl
   | some o=>
    rcases Y.DG b (by rw[O];simp) with y | y | y;exact absurd aa.2 y;exact absurd aa.1 y;exact absurd y ae
 constructor;intro j U;by_cases e:j=i;subst e;rw[upd_same];exact aA;rw[upd_ne _ _ e];exact⟨λb o K=>(au j U e b o (.inr K)).1,λb o K=>(au j U e b o (.inl K)).1,(h.fits j U).d⟩;intro a c ay aj Z b hb;by_cases e:a=i;subst e;rw[upd_same] at hb;rw[upd_ne _ _ (lu Z)];exact aF c aj (lu Z) b hb;rw[upd_ne _ _ e] at hb;by_cases az:c=i;subst az;rw[upd_same];exact aG a ay Z b hb;rw[upd_ne _ _ az];exact h.hh a c ay aj Z b hb
 .intro j U b hb;by_cases e:j=i
  .subst e;rw[upd_same];have aa:=h.sh j U b hb;have ae:=h.Fq b hb;constructor
   .cases O:s'.H b with
    | none=>rfl
    | some o=>
     rcases Y.own b (by rw[O];simp) with y | y;exact absurd aa.1 y;omega
   .cases O:s'.E b with
    | none=>rfl
    | some o=>
     rcases Y.DG b (by rw[O];simp) with y | y | y;exact absurd aa.2 y;exact absurd aa.1 y;omega
  .rw [upd_ne _ _ e];exact h.sh j U b hb
 .exact λb hb=>mh (h.Fq b hb) Y.size
 .intro said;refine noRace_append (g:=i) (h.clean said) (λop K=>(ag op K).1) λx a O op K c aj aH=>?_;let⟨_,e,he,ai⟩:=ag op K;rw[ai] at aj;obtain⟨aI,hm,ah,_⟩:=aH;let⟨b,hb⟩:=SL hm;have aJ:Dg c.loc=some b:=by rw[← aI];exact hb
  have ak:=Ml (al e he) aj aJ;rcases ak.2 with y | y | ⟨y,ap⟩;exact h.kH i hi b y x a O hb;have:=Oe h.low O hb;omega;rcases ah with z | z;exact h.kE i hi b y x a O hb z;rw[ap] at z;cases z
 intro op K;rcases mi.1 K with K | K;exact MemAct.low_mono Y.size (h.low op K);let⟨_,e,he,ai⟩:=ag op K;rw[ai];exact W1 (al e he);intro j U b hb x a O ab;by_cases e:j=i;subst e;rw[upd_same] at hb;rcases an x a O with K | ⟨aq,_⟩;rcases Y.own b hb with y | y;exact(h.kH j U b y x a K ab).app _;have:=Oe h.low K ab;omega;exact aq;rw[upd_ne _ _ e] at hb;rcases an x a O with K | ⟨_,ev,he,ar⟩;exact(h.kH j U b hb x a K ab).app _;have ak:=Ml (al ev he) ar ab;have aa:=h.hh j i U hi e b hb;rcases ak.2 with y | y | ⟨y,_⟩;exact absurd aa.1 y;exact absurd (am j U b y).1 hb;exact absurd aa.2 y;intro j U b hb x a O ab ah;by_cases e:j=i;subst e;rw[upd_same] at hb;rcases an x a O with K | ⟨aq,_⟩;rcases Y.DG b hb with y | y | y;exact(h.kE j U b y x a K ab ah).app _;exact(h.kH j U b y x a K ab).app _;have:=Oe h.low K ab;omega;exact aq;rw[upd_ne _ _ e] at hb;rcases an x a O with K | ⟨_,ev,he,ar⟩;exact(h.kE j U b hb x a K ab ah).app _;have ak:=Ml (al ev he) ar ab;rcases ak.2 with y | y | ⟨_,ap⟩;exact absurd ((h.hh i j hi U (lu e) b y).2) hb;exact absurd (am j U b y).2 hb;rw[ap] at ah;cases ah
theorem BQ.mute{t u:Trace}{w:World}{id:Nat}{S:Nat->St}(h:BQ t w id S Sh){g:Nat}(hu:∀op∈u,op.g=g)(Z:∀op∈u,op.act.touch?=none)(ae:∀op∈u,op.act.low w'.heap.size)(hw:w'.heap=w.heap):BQ (t++u) w' id S Sh:=by
 have aa:∀x a,touchAt (t++u) x=some a->touchAt t x=some a:=by
  intro x a O;let⟨op,K,U⟩:=touch_of O;rcases getElem?_append_cases K with⟨aj,ag⟩ | ⟨_,ah⟩;rw[touchAt_of ag];exact U;rw[Z op ah] at U;cases U
 exact⟨λi hi=>⟨λb o K=>by rw[hw];exact(h.fits i hi).e b o K,λb o K=>by rw[hw];exact(h.fits i hi).h b o K,(h.fits i hi).d⟩,h.hh,h.sh,λb hb=>by rw[hw];exact h.Fq b hb,
  λsaid=>noRace_append (g:=g) (h.clean said) hu (λx a _ op K c ab _=>by rw[Z op K] at ab;cases ab),
  λop K=>(mi.1 K).elim (λK=>by rw[hw];exact h.low op K) (ae op),
  λi hi b hb x a O Y=>(h.kH i hi b hb x a (aa x a O) Y).app _,λi hi b hb x a O Y ai=>(h.kE i hi b hb x a (aa x a O) Y ai).app _⟩
theorem BQ.ghost{t:Trace}{w:World}{id:Nat}{S:Nat->St}(h:BQ t w id S Sh){i:Nat}(hi:i<id){s₀:St}(ae:BW (S i) s₀):BQ t w id (upd S i s₀) Sh:=by
 have Z:∀b,s₀.H b≠none->(S i).H b≠none:=λb hb=>by let⟨o,ag⟩:=Hz hb;rw[ae.own b o ag];simp
 have ah:∀b,s₀.E b≠none->(S i).E b≠none∨(S i).H b≠none:=λb hb=>by
  let⟨o,ag⟩:=Hz hb;rcases ae.DG b o ag with x | x;exact .inl (by rw[x];simp);exact .inr (by rw[x.1];simp)
 have aa:∀{x:Option Obj},¬x≠none->x=none:=λh=>Classical.not_not.1 h;constructor;intro j K;by_cases e:j=i;subst e;rw[upd_same];exact ae.fits (h.fits j K);rw[upd_ne _ _ e];exact h.fits j K;intro a c ai aj ab b hb;by_cases e:a=i;subst e;rw[upd_same] at hb;rw[upd_ne _ _ (lu ab)];exact h.hh a c ai aj ab b (Z b hb);rw[upd_ne _ _ e] at hb;by_cases ak:c=i;subst ak;rw[upd_same];have O:=h.hh a c ai aj ab b hb;exact⟨aa λx=>Z b x O.1,aa λx=>(ah b x).elim (λy=>y O.2) λy=>y O.1⟩;rw[upd_ne _ _ ak];exact h.hh a c ai aj ab b hb;intro j K b hb;by_cases e:j=i;subst e;rw[upd_same];have O:=h.sh j K b hb;exact⟨aa λx=>Z b x O.1,aa λx=>(ah b x).elim (λy=>y O.2) λy=>y O.1⟩;rw[upd_ne _ _ e];exact h.sh j K b hb;exact h.Fq;exact h.clean;exact h.low;intro j K b hb x a U Y;by_cases e:j=i;subst e;rw[upd_same] at hb;exact h.kH j K b (Z b hb) x a U Y;rw[upd_ne _ _ e] at hb;exact h.kH j K b hb x a U Y;intro j K b hb x a U Y al;by_cases e:j=i;subst e;rw[upd_same] at hb;rcases ah b hb with y | y;exact h.kE j K b y x a U Y al;exact h.kH j K b y x a U Y;rw[upd_ne _ _ e] at hb;exact h.kE j K b hb x a U Y al
open Go.ConcN (sumTo sumTo_upd)
abbrev St.none:St:=St.quiet
def lone(s:St):Nat->St:=λi=>if i=0 then s else St.none
structure Gw (P:Program) (gs:Array Goroutine) (w:World) (t:Trace) (q:Nat->Nat) (Sh:Nat->Prop) (g:Goroutine) (s:St):Prop where
 main:gs[0]?=some g
 lv:Leavers P t gs q
 Ci:BQ t w gs.size (lone s) Sh
 over:t.HandedOver
 hears:Deaf t 0=0
def Reaches(P:Program)(gs:Array Goroutine)(w:World)(sl:Option (Nat×Nat))(t:Trace)(s:St)(K:Gs_):Prop:=
 ∃(n:Nat) (gs':Array Goroutine) (w':World) (U:Option (Nat×Nat)) (O:Trace) (Y:Nat->Nat) (Z:Nat->Prop) (g':Goroutine) (s':St),
  runNT P n (crowd gs w sl) t=(.next (crowd gs' w' U),O)/\Gw P gs' w' O Y Z g' s'/\K g' s'/\Le' s s'/\w'.tape=w.tape/\w'.os=w.os/\w'.output=w.output
 where
  Le' (s s' : St) : Prop :=∀ b o, s.E b = some o -> s'.E b = some o
theorem QC{s:St}:upd (lone s) 0 s'=lone s':=by
 funext i;unfold upd lone;split<;>rfl
theorem Md{P:Program}{m m':Machine}{t ops:Trace}{k:Nat}{r:Stepped×Trace}(h:stepT P m=(.next m',ops))(K:runNT P k m' (t++ops)=r):runNT P (k+1) m t=r:=by
 simp only[runNT,h];exact K
theorem Gw.at_{P:Program}{gs:Array Goroutine}{w:World}{t:Trace}{q:Nat->Nat}{g:Goroutine}{s:St}(h:Gw P gs w t q Sh g s)(d:Nat):Gw P gs (w.at d) t q Sh g s:=
 ⟨h.main,h.lv,by
  have:=h.Ci.mute (u:=#[]) (w':=w.at d) (g:=0) (by simp) (by simp) (by simp) rfl
  simpa using this,h.over,h.hears⟩
theorem Ud{P:Program}{g:Goroutine}{s:St}{K:Gs_}(ay:Ry P true g s K):
  ∀(M:Nat) (gs:Array Goroutine) (w:World) (sl:Option (Nat×Nat)) (t:Trace) (q:Nat->Nat) (Sh:Nat->Prop),sumTo gs.size q<=M->Gw P gs w t q Sh g s->Reaches P gs w sl t s K:=by
 intro M
 induction M with
 | zero=>?_
 | succ M aD=>?_
 all_goals
  intro gs w sl t q Sh aT hC;have ak:=ay.1;have aE:∀x∈gs,awake x:=by
   intro x ae;obtain⟨i,hi,rfl⟩:=nr.1 ae;rcases mj i with rfl | al
   .have:gs[0]=g:=by simpa [f9 hi] using hC.main
    rw[this];exact awake_of (.inl ak)
   .exact awake_of ((hC.lv.old i _ al (f9 hi)).status.elim .inl λx=>.inr (.inr x))
  let⟨i,x,d,ag,hi,ae,az⟩:=crowd_pick (P:=P) (w:=w) (sl:=sl) aE ⟨0,g,hC.main,ak⟩;have am:=hC.at_ d;have an:0<gs.size:=(d4.1 hC.main).1;rcases mj i with rfl | al
  .obtain rfl:x=g:=by rw[hC.main] at hi;exact(d6 hi).symm
   have aF:Fits s (w.at d):=am.Ci.fits 0 an;let⟨g',s',w',es,ao,ap,aq,Z,ah⟩:=ay.2.1 (w.at d) aF;have ar:=runT_crowd_go (P:=P) (sl:=ag) (i:=0) hi (show stepG P (0==0) x (w.at d)=_ from ao);have ai:((gs.map (woken P x g' w')).setIfInBounds 0 g').size=gs.size:=by simp
   have Y:∀op∈MemOp.ofEvents 0 x.frame.fn x.frame.place es,op.g=0:=λop O=>by obtain⟨e,_,rfl⟩:=mem_ofEvents O;rfl
   have aG:deafBehind (Deaf t 0) es=Deaf t 0:=deafBehind_still (λe he=>by
    have:=ah e he
    unfold Ev at this
    constructor<;>intro aH<;>rw[aH] at this<;>exact this) _
   refine⟨1,_,w',ag,t++MemOp.ofEvents 0 x.frame.fn x.frame.place es,q,Sh,g',s',Md (az.trans ar) V,⟨by simp[an],⟨λj y U aa=>?_,λj U=>?_⟩,?_,?_,?_⟩,ap,Z.ext,Z.tape,Z.os,Z.output⟩
   .have au:0≠j:=by omega
    rw[d9 au,mI] at aa;obtain⟨z,av,rfl⟩:=lJ.1 aa;have ab:=hC.lv.old j z U av;rw[woken_quitsD ab,Deaf_other t (by omega) _ Y];exact ab
   rw[Deaf_other t (g':=0) (by simp at U;omega) _ Y];exact hC.lv.above j (by simpa using U);rw[ai,← QC (s:=s)];exact am.Ci.own an aq (by simpa [lone] using Z) (by simpa [lone] using ah);exact handedOver_app hC.over λop O=>.inl (Y op O);rw[Deaf_own,aG];exact hC.hears
  ·
   have ab:=hC.lv.old i x al hi;have aI:(i==0)=false:=by simp;omega
   have aA:i<gs.size:=(d4.1 hi).1;cases aw:q i with
   | zero=>rw[aw] at ab;rw[ab.1] at ae;cases ae
   | succ k=>
    rw[aw] at ab;rcases ab with⟨aJ,_⟩ | ⟨_,x',es,hm,aK,aL⟩;rw[aJ] at ae;cases ae
    have aU:sumTo gs.size (upd q i k)+(k+1)=sumTo gs.size q+k:=by
     have:=sumTo_upd q k id aA;simpa [aw] using this
    first
     | (exfalso;omega)
     | (
      have ar:=runT_crowd_go (P:=P) (sl:=ag) (i:=i) hi (by rw[aI];exact aK (w.at d))
      have ai:((gs.map (woken P x x' (w.at d))).setIfInBounds i x').size=gs.size:=by simp
      have Y:∀op∈MemOp.ofEvents i x.frame.fn x.frame.place es,op.g=i:=λop O=>by obtain⟨e,_,rfl⟩:=mem_ofEvents O;rfl
      have aB:∀op∈MemOp.ofEvents i x.frame.fn x.frame.place es,op.act.touch?=none:=λop O=>by obtain⟨e,he,rfl⟩:=mem_ofEvents O;exact touch_mute (hm e he)
      have aM:Gw P ((gs.map (woken P x x' (w.at d))).setIfInBounds i x') (w.at d) (t++MemOp.ofEvents i x.frame.fn x.frame.place es) (upd q i k) Sh g s:=by
       refine⟨?_,⟨λj y U aa=>?_,λj U=>?_⟩,?_,?_,?_⟩
       .have au:i≠0:=by omega
        rw[d9 au,mI,hC.main]
        simp[woken_run ak]
       .by_cases aj:i=j
        .subst aj
         rw[k9 (by simpa using aA)] at aa
         obtain rfl:=d6 aa
         rw[upd_same,Deaf_own]
         exact aL
        .rw [d9 aj,mI] at aa
         obtain⟨z,av,rfl⟩:=lJ.1 aa
         have aC:=hC.lv.old j z U av
         rw[woken_quitsD aC,upd_ne q k (lu aj),Deaf_other t aj _ Y]
         exact aC
       .rw [Deaf_other t (g':=i) (by simp at U;omega) _ Y]
        exact hC.lv.above j (by simpa using U)
       .rw [ai]
        exact am.Ci.mute Y aB (λop O=>by obtain⟨e,he,rfl⟩:=mem_ofEvents O;exact low_mute (hm e he) _) V
       exact handedOver_app hC.over λop O=>.inr (aB op O);rw[Deaf_other t (by omega) _ Y];exact hC.hears
      obtain⟨n,gs',w',aN,aO,aP,aQ,g',s',ao,ap,aq,Z,ah,aR,aS⟩:=aD _ (w.at d) ag _ _ Sh (by rw[ai];omega) aM
      exact⟨n+1,gs',w',aN,aO,aP,aQ,g',s',Md (az.trans ar) ao,ap,aq,Z,ah,aR,aS⟩)
def FX(P:Program):Judge P where
 main:=true
 ok Q g s:=∀gs w sl t q Sh,Gw P gs w t q Sh g s->Reaches P gs w sl t s Q
 stop {Q g s} h:=λgs w sl t q Sh hC=>⟨0,gs,w,sl,t,q,Sh,g,s,rfl,hC,h,λ_ _ h=>h,rfl,rfl,rfl⟩
 step {Q g s} h:=λgs w sl t q Sh hC=>by
  let⟨n,gs',w',K,O,U,Y,g',s',Z,aa,ab,ae,ag,ah,ai⟩:=Ud h _ gs w sl t q Sh (la _) hC
  let⟨n',aj,ak,al,am,an,ao,ap,aq,k1,ar,au,av,aw,ay,az⟩:=ab gs' w' K O U Y aa
  refine⟨n+n',aj,ak,al,am,an,ao,ap,aq,?_,ar,au,λb o h=>av b o (ae b o h),aw.trans ag,ay.trans ah,az.trans ai⟩
  rw[runNT_add,Z];exact k1
 trans {Q R g s} h k:=λgs w sl t q Sh hC=>by
  let⟨n,gs',w',K,O,U,Y,g',s',Z,aa,ab,ae,ag,ah,ai⟩:=h gs w sl t q Sh hC
  let⟨n',aj,ak,al,am,an,ao,ap,aq,k1,ar,au,av,aw,ay,az⟩:=k g' s' ab gs' w' K O U Y aa
  refine⟨n+n',aj,ak,al,am,an,ao,ap,aq,?_,ar,au,λb o h=>av b o (ae b o h),aw.trans ag,ay.trans ah,az.trans ai⟩
  rw[runNT_add,Z];exact k1
 ghost {Q g s s₀} aA h:=λgs w sl t q Sh hC=>by
  have aB:0<gs.size:=(d4.1 hC.main).1
  have aC:Gw P gs w t q Sh g s₀:=⟨hC.main,hC.lv,by
   rw[← QC (s:=s)];exact hC.Ci.ghost aB (by simpa [lone] using aA),hC.over,hC.hears⟩
  let⟨n,gs',w',K,O,U,Y,g',s',Z,aa,ab,ae,ag,ah,ai⟩:=h gs w sl t q Sh aC
  exact⟨n,gs',w',K,O,U,Y,g',s',Z,aa,ab,λb o h=>ae b o (aA.ext b o h),ag,ah,ai⟩
end Pal
namespace Pal
open Go Go.Conc
open Go.ConcN (upd upd_same upd_ne)
variable{i:Nat}
section
variable {t u:Trace}{w w':World}{N:Nat}{S:Nat->St}{Sh:Nat->Prop}
theorem BQ.ext(h:BQ t w N S Sh)(ab:∀said,¬Race said (t++u))(hu:∀op∈u,∀a,op.act.touch?=some a->∀b,Dg a.loc=some b->Sh b)
  (ae:∀op∈u,op.act.low w.heap.size) (Z:w'.heap.size=w.heap.size) (hw:∀b,¬Sh b->w'.heap[b]?=w.heap[b]?):BQ (t++u) w' N S Sh:=by
 have hold:∀x a b,touchAt (t++u) x=some a->Dg a.loc=some b->¬Sh b->touchAt t x=some a:=by
  intro x a b U hb O;let⟨op,K,aa⟩:=touch_of U;rcases getElem?_append_cases K with⟨ak,ag⟩ | ⟨_,ah⟩;rw[touchAt_of ag];exact aa;exact absurd (hu op ah a aa b hb) O
 have O:∀i,i<N->∀b,((S i).H b≠none∨(S i).E b≠none)->¬Sh b:=by
  intro i hi b hb ai;have:=h.sh i hi b ai;exact hb.elim (λx=>x this.1) (λx=>x this.2)
 refine⟨λi hi=>⟨λb o K=>?_,λb o K=>?_,(h.fits i hi).d⟩,h.hh,h.sh,λb hb=>by rw[Z];exact h.Fq b hb,ab,λop K=>?_,λi hi b hb x a U Y=>?_,λi hi b hb x a U Y aj=>?_⟩;rw[hw b (O i hi b (.inr (by rw[K];simp)))];exact(h.fits i hi).e b o K;rw[hw b (O i hi b (.inl (by rw[K];simp)))];exact(h.fits i hi).h b o K;rcases mi.1 K with K | K;rw[Z];exact h.low op K;rw[Z];exact ae op K;exact(h.kH i hi b hb x a (hold x a b U Y (O i hi b (.inl hb))) Y).app _;exact(h.kE i hi b hb x a (hold x a b U Y (O i hi b (.inr hb))) Y aj).app _
theorem BQ.congr{S':Nat->St}(h:BQ t w N S Sh)(K:∀i,i<N->(S' i).E=(S i).E/\(S' i).H=(S i).H):BQ t w N S' Sh:=by
 refine⟨λi hi=>⟨by rw[(K i hi).1];exact(h.fits i hi).e,by rw[(K i hi).2];exact(h.fits i hi).h,by rw[(K i hi).1,(K i hi).2];exact(h.fits i hi).d⟩,λi j hi O U b=>?_,λi hi b=>?_,h.Fq,h.clean,h.low,λi hi b=>?_,λi hi b=>?_⟩;rw[(K i hi).2,(K j O).1,(K j O).2];exact h.hh i j hi O U b;rw[(K i hi).1,(K i hi).2];exact h.sh i hi b;rw[(K i hi).2];exact h.kH i hi b;rw[(K i hi).1];exact h.kE i hi b
theorem BQ.less(h:BQ t w N S Sh){s':St}(ae:∀b o,s'.E b=some o->(S i).E b=some o)(ag:∀b o,s'.H b=some o->(S i).H b=some o):BQ t w N (upd S i s') Sh:=by
 have Y:∀j b o,(upd S i s' j).E b=some o->(S j).E b=some o:=by
  intro j b o K;by_cases e:j=i;subst e;rw[upd_same] at K;exact ae b o K;rwa[upd_ne _ _ e] at K
 have e2:∀j b o,(upd S i s' j).H b=some o->(S j).H b=some o:=by
  intro j b o K;by_cases e:j=i;subst e;rw[upd_same] at K;exact ag b o K;rwa[upd_ne _ _ e] at K
 have n1:∀j b,(S j).E b=none->(upd S i s' j).E b=none:=by
  intro j b hb;cases U:(upd S i s' j).E b with
  | none=>rfl
  | some o=>rw[Y j b o U] at hb;cases hb
 have n2:∀j b,(S j).H b=none->(upd S i s' j).H b=none:=by
  intro j b hb;cases U:(upd S i s' j).H b with
  | none=>rfl
  | some o=>rw[e2 j b o U] at hb;cases hb
 have p1:∀j b,(upd S i s' j).E b≠none->(S j).E b≠none:=λj b hb x=>hb (n1 j b x);have p2:∀j b,(upd S i s' j).H b≠none->(S j).H b≠none:=λj b hb x=>hb (n2 j b x);exact⟨λj O=>⟨λb o K=>(h.fits j O).e b o (Y j b o K),λb o K=>(h.fits j O).h b o (e2 j b o K),λb hb=>n2 j b ((h.fits j O).d b (p1 j b hb))⟩,
  λa c Z aa ab b hb=>⟨n2 c b (h.hh a c Z aa ab b (p2 a b hb)).1,n1 c b (h.hh a c Z aa ab b (p2 a b hb)).2⟩,
  λj O b hb=>⟨n2 j b (h.sh j O b hb).1,n1 j b (h.sh j O b hb).2⟩,h.Fq,h.clean,h.low,
  λj O b hb=>h.kH j O b (p2 j b hb),λj O b hb=>h.kE j O b (p1 j b hb)⟩
theorem BQ.grow(h:BQ t w N S Sh)(hi:i<N){E':LH}{q:Bool}
  (ab:∀b o,E' b=some o->(S i).E b=some o∨∃j,j<N/\(S j).E b=some o/\∀x a,touchAt t x=some a->Dg a.loc=some b->a.write=true->Knows t i x):
  BQ t w N (upd S i ⟨E',(S i).H,q⟩) Sh:=by
 have ai:∀{b},E' b≠none->∃j,j<N/\∃o,(S j).E b=some o:=by
  intro b hb;let⟨o,Y⟩:=Hz hb;rcases ab b o Y with x | ⟨j,K,x,_⟩;exact⟨i,hi,o,x⟩;exact⟨j,K,o,x⟩
 have aj:∀a,a<N->∀b,(S a).H b≠none->E' b=none:=by
  intro a U b hb;cases O:E' b with
  | none=>rfl
  | some o=>
   obtain⟨j,K,o',Z⟩:=ai (b:=b) (by rw[O];simp);by_cases e:a=j;subst e;have:=(h.fits a U).d b (by rw[Z];simp);exact absurd this hb;have:=(h.hh a j U K e b hb).2;rw[Z] at this;cases this
 constructor
 .intro j K;by_cases e:j=i
  .subst e;rw[upd_same];refine⟨λb o Y=>?_,(h.fits j K).h,λb hb=>?_⟩;rcases ab b o Y with x | ⟨k,aa,x,_⟩;exact(h.fits j K).e b o x;exact(h.fits k aa).e b o x
   .cases O:(S j).H b with
    | none=>rfl
    | some o=>exact absurd (aj j K b (by rw[O];simp)) hb
  .rw [upd_ne _ _ e];exact h.fits j K
 .intro a c U ak al b hb;have ae:(S a).H b≠none:=by
   by_cases e:a=i;subst e;rwa[upd_same] at hb;rwa[upd_ne _ _ e] at hb
  by_cases e:c=i;subst e;rw[upd_same];exact⟨(h.hh a c U ak al b ae).1,aj a U b ae⟩;rw[upd_ne _ _ e];exact h.hh a c U ak al b ae
 .intro j K b hb;by_cases e:j=i
  .subst e;rw[upd_same];refine⟨(h.sh j K b hb).1,?_⟩;cases O:E' b with
   | none=>exact O
   | some o=>
    obtain⟨k,aa,o',Z⟩:=ai (b:=b) (by rw[O];simp);rw[(h.sh k aa b hb).2] at Z;cases Z
  .rw [upd_ne _ _ e];exact h.sh j K b hb
 exact h.Fq;exact h.clean;exact h.low;intro j K b hb;by_cases e:j=i;subst e;rw[upd_same] at hb;exact h.kH j K b hb;rw[upd_ne _ _ e] at hb;exact h.kH j K b hb;intro j K b hb x a O ag ah;by_cases e:j=i;subst e;rw[upd_same] at hb;let⟨o,Y⟩:=Hz hb;rcases ab b o Y with y | ⟨k,aa,y,am⟩;exact h.kE j K b (by rw[y];simp) x a O ag ah;exact am x a O ag ah;rw[upd_ne _ _ e] at hb;exact h.kE j K b hb x a O ag ah
theorem BQ.push(h:BQ t w N S Sh)(hi:i<N){E:LH}(aa:∀b o,E b=some o->(S i).E b=some o)
  (ag:∀b,E b≠none->∀x a,touchAt t x=some a->Dg a.loc=some b->a.write=true->Knows t N x):BQ t w (N+1) (upd S N ⟨E,λ_=>none,false⟩) Sh:=by
 have O:∀j,j<N->upd S N ⟨E,λ_=>none,false⟩ j=S j:=λj K=>upd_ne _ _ (by omega);have ai:∀b,E b≠none->(S i).E b≠none:=λb hb=>by let⟨o,Y⟩:=Hz hb;rw[aa b o Y];simp
 have ae:∀b,(S i).E b=none->E b=none:=λb hb=>by
  cases ab:E b with
  | none=>rfl
  | some o=>rw[aa b o ab] at hb;cases hb
 have cs:∀j,j<N+1->j<N∨j=N:=λj K=>by omega
 constructor;intro j K;rcases cs j K with K | rfl;rw[O j K];exact h.fits j K;rw[upd_same];exact⟨λb o Y=>(h.fits i hi).e b o (aa b o Y),λb o Y=>(by cases Y),λb _=>V⟩
 .intro a c U Z ah b hb;rcases cs a U with U | rfl
  .rw [O a U] at hb;rcases cs c Z with Z | rfl;rw[O c Z];exact h.hh a c U Z ah b hb
   .rw [upd_same];refine⟨V,ae b ?_⟩;by_cases e:a=i
    .subst e;cases ab:(S a).E b with
     | none=>rfl
     | some o=>exact absurd ((h.fits a U).d b (by rw[ab];simp)) hb
    .exact(h.hh a i U hi e b hb).2
  .rw [upd_same] at hb;exact absurd V hb
 intro j K b hb;rcases cs j K with K | rfl;rw[O j K];exact h.sh j K b hb;rw[upd_same];exact⟨V,ae b (h.sh i hi b hb).2⟩;exact h.Fq;exact h.clean;exact h.low;intro j K b hb;rcases cs j K with K | rfl;rw[O j K] at hb;exact h.kH j K b hb;rw[upd_same] at hb;exact absurd V hb;intro j K b hb;rcases cs j K with K | rfl;rw[O j K] at hb;exact h.kE j K b hb;rw[upd_same] at hb;exact ag b hb
theorem BQ.share(h:BQ t w N S Sh)(hi:i<N){b₀:Nat}{o₀:Obj}(U:(S i).H b₀=some o₀):
  BQ t w N (upd S i {S i with H:=λb=>if b=b₀ then none else(S i).H b}) (λb=>Sh b∨b=b₀):=by
 have K:BQ t w N (upd S i {S i with H:=λb=>if b=b₀ then none else(S i).H b}) Sh:=
  h.less (λb o O=>O) (λb o O=>by simp only at O;split at O<;>first | (cases O;done) | exact O)
 have aa:b₀<w.heap.size:=by
  have:=(h.fits i hi).h b₀ o₀ U;rcases lb b₀ w.heap.size with Y | Y;exact Y;simp[lk Y] at this
 refine⟨K.fits,K.hh,λj Z b hb=>?_,λb hb=>hb.elim (K.Fq b) (λe=>e▸aa),K.clean,K.low,K.kH,K.kE⟩;rcases hb with hb | rfl;exact K.sh j Z b hb
 .by_cases e:j=i
  .subst e;rw[upd_same];refine⟨by simp,?_⟩;cases ab:(S j).E b with
   | none=>rfl
   | some o=>have:=(h.fits j Z).d b (by rw[ab];simp);rw[U] at this;cases this
  .rw [upd_ne _ _ e];exact h.hh i j hi Z (lu e) b (by rw[U];simp)
end
end Pal
