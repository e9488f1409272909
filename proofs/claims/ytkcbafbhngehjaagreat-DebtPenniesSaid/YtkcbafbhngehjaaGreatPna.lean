/- DebtPennies is true for every input: if all coins are one pound: a part (1 of 9) of the proof of its row. -/
import Derived.Conc.Own5
import Derived.Conc.Listed
import Derived.Conc.DeferLaws
import Derived.Orders
import Derived.Conc.Beside
import Derived.Conc.CrowdComm
import Derived.Conc.TokenWalk
import Derived.Conc.MarkLaws
import Derived.Conc.AtomicLaws2
import Derived.Conc.ClockLaws
set_option linter.all false
set_option maxRecDepth 100000
namespace Pal
open Go Go.Conc
theorem V{α:Sort _}{a:α}:a=a:=rfl
abbrev d6:=@List.getElem?_eq_getElem
abbrev d7:=@List.mem_singleton
abbrev d9:=@if_neg
abbrev eS:=@if_pos
abbrev fx:=@List.getElem?_eq_some_iff
abbrev f4:=@Prod.mk.injEq
abbrev f5:=@Option.some.inj
abbrev f7:=@List.mem_cons_of_mem
abbrev f8:=@Array.getElem?_eq_some_iff
abbrev gJ:=@List.getD_eq_getElem?_getD
abbrev gQ:=@Bool.and_eq_true
abbrev iO:=@List.mem_cons
abbrev mt:=@Nat.lt_or_ge
abbrev no:=@Nat.le_refl
abbrev pd:=@Array.getD_eq_getD_getElem?
abbrev pe:=@Array.getElem?_setIfInBounds_ne
abbrev pf:=@List.getElem?_append_right
abbrev pg:=@List.mem_append
abbrev pj:=@List.getElem_mem
abbrev pn:=@List.not_mem_nil
abbrev po:=@List.getElem?_append_left
abbrev pq:=@Array.getElem?_setIfInBounds_self_of_lt
abbrev pr:=@List.perm_append_comm
abbrev pt:=@Nat.le_of_ble_eq_true
abbrev pu:=@Bool.toNat_false
abbrev pw:=@List.mem_range
abbrev px:=@Bool.false_eq_true
abbrev py:=@Array.getElem?_eq_none
abbrev pz:=@Bool.eq_false_iff
abbrev pA:=@List.length_append
abbrev pB:=@congrArg
abbrev pC:=@List.mem_of_getElem?
abbrev pE:=@List.length_set
abbrev pF:=@List.append_assoc
abbrev pG:=@List.append_nil
abbrev pI:=@Bool.toNat_true
abbrev pJ:=@List.all_eq_true
abbrev pK:=@List.mem_cons_self
abbrev pL:=@List.eq_nil_of_length_eq_zero
abbrev pM:=@List.length_cons
abbrev pO:=@List.mem_map
abbrev pP:=@Array.getElem?_eq_getElem
abbrev pR:=@List.getElem?_toArray
abbrev pS:=@List.mem_iff_getElem?
abbrev pU:=@List.getElem?_eq_none
abbrev pW:=@List.map_cons
abbrev pY:=@List.flatten_cons
abbrev p5:=@decide_eq_false
abbrev p6:=@Ne.symm
abbrev p7:=@Option.map_eq_some_iff
abbrev p8:=@List.getElem?_set
abbrev p9:=@List.mem_append_left
abbrev qa:=@List.getElem?_set_ne
abbrev qb:=@Decidable.byContradiction
abbrev qc:=@Nat.zero_le
abbrev qd:=@List.mem_append_right
abbrev qe:=@List.getElem?_map
abbrev qf:=@decide_eq_true
abbrev qg:=@Nat.le_trans
abbrev qh:=@List.getElem?_set_self
abbrev qi:=@Nat.mul_le_mul_right
abbrev qj:=@Nat.pow_le_pow_right
abbrev qk:=@List.take_length
abbrev ql:=@List.map_append
abbrev qm:=@Array.ext_getElem?
abbrev qn:=@Array.getElem?_toList
abbrev qo:=@Nat.eq_zero_or_pos
abbrev qp:=@if_false
abbrev qq:=@Nat.add_zero
abbrev qr:=@List.nil_append
abbrev qs:=@if_true
abbrev qt:=@Nat.lt_of_lt_of_le
abbrev qu:=@or_false
abbrev qv:=@Option.some.injEq
abbrev qw:=@decide_eq_true_eq
abbrev qx:=@List.nodup_append
abbrev qy:=@Nat.succ_mul
abbrev qz:=@Bool.or_eq_true
abbrev qB:=@List.length_map
abbrev qC:=@Array.getElem?_append_left
abbrev qD:=@List.getElem?_cons_zero
abbrev qE:=@List.take_add_one
abbrev qF:=@Int.toNat_natCast
abbrev qG:=@Classical.choose_spec
abbrev qH:=@Option.map_some
abbrev qI:=@List.getElem?_take
abbrev qJ:=@List.take_of_length_le
abbrev qK:=@List.mem_toArray
abbrev qL:=@List.drop_eq_getElem_cons
abbrev qM:=@of_decide_eq_true
abbrev qN:=@List.ext_getElem?
abbrev qO:=@List.sum_cons
abbrev qP:=@List.find?_range_eq_some
abbrev qQ:=@List.cons_append
abbrev qR:=@List.flatten_append
abbrev qS:=@Array.ext'
abbrev qT:=@Array.getElem?_modify
abbrev qU:=@List.length_singleton
abbrev qV:=@Array.mem_append
abbrev qW:=@Option.bind_eq_some_iff
abbrev qX:=@List.getElem?_cons_succ
abbrev qY:=@Decidable.not_not
abbrev qZ:=@Nat.zero_add
abbrev q0:=@List.eraseIdx_append_of_length_le
abbrev q1:=@Array.getElem?_map
abbrev q2:=@Bool.false_ne_true
abbrev q3:=@List.Perm.append_left
abbrev q4:=@Nat.lt_of_le_of_lt
abbrev q5:=@List.Perm.refl
abbrev q6:=@List.find?_eq_none
abbrev q7:=@Array.mapM_eq_mapM_toList
abbrev q8:=@Nat.add_mul
abbrev q9:=@List.mem_of_mem_eraseIdx
abbrev ra:=@Nat.min_eq_left
abbrev rb:=@beq_iff_eq
abbrev rc:=@List.eq_of_mem_replicate
abbrev re:=@List.mem_filter
abbrev rf:=@List.size_toArray
abbrev rg:=@List.mem_flatten
abbrev rh:=@List.find?_cons_of_neg
abbrev ri:=@Nat.testBit_lt_two_pow
abbrev rj:=@List.set_cons_zero
abbrev rk:=@List.set_set
abbrev rl:=@Nat.zero_mul
abbrev rm:=@Array.all_eq_true'
abbrev ro:=@Nat.sub_zero
abbrev rp:=@List.pairwise_cons
abbrev rq:=@List.foldl_cons
abbrev rr:=@Int.fdiv_eq_ediv_of_nonneg
abbrev rt:=@Nat.add_assoc
abbrev ru:=@Bool.not_eq_true'
abbrev rv:=@List.length_range
abbrev rx:=@List.mem_or_eq_of_mem_set
abbrev ry:=@Nat.shiftRight_eq_div_pow
abbrev rz:=@List.findIdx_lt_length_of_exists
abbrev rC:=@List.getElem?_range
abbrev rD:=@Array.toList_filter
abbrev rE:=@List.length_eq_zero_iff
abbrev rF:=@Bool.toNat_le
abbrev rG:=@Option.isSome_none
abbrev rH:=@List.nodup_cons
abbrev rJ:=@List.getElem?_drop
abbrev rO:=@List.forIn_cons
abbrev rQ:=@Option.toList_some
abbrev rR:=@List.drop_eq_nil_of_le
abbrev rS:=@List.foldl_append
abbrev rT:=@Nat.sub_self
abbrev rU:=@List.length_replicate
abbrev rW:=@List.forIn_nil
abbrev rX:=@iff_of_false
abbrev rY:=@Nat.testBit_two_pow_sub_one
abbrev rZ:=@Array.mem_toList_iff
abbrev r0:=@BitVec.ofInt_natCast
abbrev r4:=@List.mem_iff_getElem
abbrev r5:=@BitVec.toNat_and
abbrev r6:=@List.length_take
abbrev r7:=@List.findIdx_getElem
abbrev r8:=@List.length_eraseIdx_of_lt
abbrev r9:=@List.length_pos_iff
abbrev sa:=@List.mem_map_of_mem
abbrev sb:=@List.replicate_succ
abbrev sc:=@Std.Legacy.Range.forIn_eq_forIn_range'
abbrev sd:=@List.filter_eq_self
abbrev se:=@List.countP_pos_iff
abbrev sf:=@List.cons.injEq
abbrev sg:=@Classical.byContradiction
abbrev si:=@List.exists_mem_of_ne_nil
abbrev sj:=@Option.isSome_iff_exists
abbrev sk:=@List.set_cons_succ
abbrev sn:=@Array.append_empty
abbrev so:=@Option.isSome_some
abbrev sr:=@List.mem_filterMap
abbrev ss:=@Array.setIfInBounds_comm
abbrev su:=@BitVec.toNat_ofNat
abbrev sy:=@Array.forIn_toList
abbrev sB:=@List.zip_cons_cons
abbrev sC:=@Bool.eq_false_or_eq_true
abbrev sD:=@Nat.one_le_two_pow
abbrev sE:=@Nat.mod_lt
abbrev sF:=@List.getElem?_replicate
abbrev sG:=@Nat.or_lt_two_pow
abbrev sH:=@Array.getElem?_extract
abbrev sI:=@Array.toList_map
abbrev sJ:=@List.flatten_nil
abbrev sK:=@Prod.ext
abbrev sL:=@List.perm_middle
abbrev sM:=@List.countP_cons
abbrev sN:=@Array.mem_iff_getElem
abbrev sO:=@List.eraseIdx_eq_take_drop_succ
abbrev sP:=@Nat.eq_of_testBit_eq
abbrev sQ:=@Nat.two_pow_pos
abbrev sR:=@Nat.pow_succ
abbrev sS:=@Nat.pow_lt_pow_right
abbrev sT:=@List.take_append_of_le_length
abbrev sU:=@Nat.shiftLeft_add_eq_or_of_lt
abbrev sW:=@Int.mul_le_mul_of_nonneg_left
abbrev sX:=@Array.getElem?_push
abbrev sY:=@Array.length_toList
abbrev sZ:=@List.mapM_cons
abbrev s0:=@List.nodup_nil
abbrev s3:=@of_decide_eq_false
abbrev s4:=@BitVec.toNat_ofInt
abbrev s5:=@Nat.lt_or_eq_of_le
abbrev s6:=@Bool.not_true
abbrev s7:=@Bool.false_or
abbrev s9:=@List.set_comm
abbrev ta:=@List.perm_append_singleton
abbrev tb:=@Classical.not_not
abbrev tc:=@List.findIdx_cons
abbrev td:=@List.zipIdx_cons
abbrev tf:=@Nat.add_comm
abbrev tg:=@List.getElem?_take_of_lt
abbrev th:=@List.map_nil
abbrev ti:=@List.range'_succ
abbrev tj:=@Array.toList_inj
abbrev tk:=@Int.mul_comm
abbrev tl:=@Nat.lt_succ_iff_lt_or_eq
abbrev tn:=@List.length_filterMap_le
abbrev tp:=@List.eraseIdx_cons_zero
abbrev tq:=@decide_eq_false_iff_not
abbrev tr:=@List.filter_cons_of_neg
abbrev ts:=@List.filter_cons_of_pos
abbrev tt:=@List.of_mem_zip
abbrev tu:=@Nat.and_le_left
abbrev tv:=@Nat.testBit_and
abbrev tx:=@List.range_succ
abbrev tz:=@List.filter_eq_nil_iff
abbrev tA:=@Int.le_refl
abbrev tB:=@Bool.not_false
abbrev tC:=@List.take_append_drop
abbrev tD:=@List.drop_zero
abbrev tE:=@List.length_filter_le
abbrev tF:=@List.find?_map
abbrev tG:=@List.set_getElem_self
abbrev tH:=@and_true
abbrev tI:=@List.pairwise_append
abbrev tJ:=@Decidable.of_not_not
abbrev tK:=@List.cons.inj
abbrev tL:=@Nat.ne_of_lt
abbrev tM:=@List.sum_nil
abbrev tN:=@iff_of_true
abbrev tO:=@congrFun
abbrev tP:=@true_and
abbrev tR_(n m:Nat):Array Bool:=⟨List.replicate n true++List.replicate m false⟩
abbrev LH:=Nat->Option Obj
structure St where
 E:LH
 H:LH
 q:Bool
abbrev Ld_:=List Deferred
abbrev Ao_:=Array Oper
abbrev Li_:=List Item
abbrev Lf_:=List Frame
abbrev On_:=Option (Nat×Bool)
abbrev Ae_:=Array Edge
abbrev Gs_:=Goroutine->St->Prop
abbrev Lv_:=List Value
abbrev Av_:=Array Value
def St.get(s:St)(b:Nat):Option Obj:=match s.E b with | some o=>some o | none=>s.H b
structure Fits (s:St) (w:World):Prop where
 e:∀b o,s.E b=some o->w.heap[b]?=some o
 h:∀b o,s.H b=some o->w.heap[b]?=some o
 d:∀b,s.E b≠none->s.H b=none
variable{w:World}{o:Obj}
theorem Fits.get{s:St}(f:Fits s w){b:Nat}(h:s.get b=some o):w.heap[b]?=some o:=by
 unfold St.get at h;split at h;rename_i o' K;cases h;exact f.e _ _ K;exact f.h _ _ h
theorem Fits.XF{s:St}(f:Fits s w){b:Nat}(h:s.H b=some o):b<w.heap.size:=by
 have:=f.h _ _ h;rcases mt b w.heap.size with K | K;exact K;simp[py K] at this
theorem Fits.lt{s:St}(f:Fits s w){b:Nat}(h:s.get b=some o):b<w.heap.size:=by
 have:=f.get h;rcases mt b w.heap.size with K | K;exact K;simp[py K] at this
def cellAt(o:Obj)(a:Addr):Option Value:=match o with | .cells c _ _=>if a.spot.isSome then none else c[a.off]? | _=>none
def frozenAt(o:Obj)(a:Addr):Bool:=match o with | .cells _ _ (lo,hi)=>lo<=a.off&&a.off<hi | _=>false
def shapeOf(o:Obj):Option (TypeId×Nat):=match o with | .cells c e _=>some (e,c.size) | _=>none
def C5:Value->Bool | .agg _ | .tuple _=>false | _=>true
def LD(o:Obj)(a:Addr)(v:Value):Obj:=match o with | .cells c e f=>.cells (if a.spot.isSome then c else c.setIfInBounds a.off v) e f | o=>o
def KI(o:Obj):Bool:=match o with | .cells ..=>false | .chan ..=>false | .pending ..=>false | .view ..=>false | .number ..=>false | _=>true
def St.cell? (s:St)(a:Addr):Option Value:=(s.get a.block).bind (cellAt · a)
def St.upd(s:St)(b:Nat)(o:Obj):St:={s with H:=λx=>if x=b then some o else s.H x}
theorem TQ{a:Addr}(h:w.heap[a.block]?=some o):w.cell? a=cellAt o a:=by
 unfold World.cell? cellAt;rw[h];cases o<;>rfl
theorem Ty{a:Addr}(h:w.heap[a.block]?=some o):w.frozen? a=frozenAt o a:=by
 unfold World.frozen? frozenAt;rw[h];cases o<;>rfl
theorem Yi{b:Nat}(h:w.heap[b]?=some o):w.shape? b=shapeOf o:=by
 unfold World.shape? shapeOf;rw[h];cases o<;>rfl
def lp(P:Program){α:Type}:Sem α->St->(α->St->Prop)->(Halt->St->Prop)->Prop
 | .pure a,s,Q,_=>Q a s
 | .load m a k,s,Q,X=>m=.plain/\∃v,s.cell? a=some v/\lp P (k v) s Q X
 | .store m a v k,s,Q,X=>m=.plain/\C5 v=true/\∃o,s.H a.block=some o/\(cellAt o a).isSome=true/\frozenAt o a=false/\lp P k (s.upd a.block (LD o a v)) Q X
 | .new o k,s,Q,X=>s.q=false/\∀r,s.E r=none->s.H r=none->lp P (k r) (s.upd r o) Q X
 | .shape r k,s,Q,X=>∃o,s.get r=some o/\lp P (k (shapeOf o)) s Q X
 | .freeze _ _ _,_,_,_=>False
 | .frozen a k,s,Q,X=>∃o,s.get a.block=some o/\lp P (k (frozenAt o a)) s Q X
 | .getObj r k,s,Q,X=>∃o,s.get r=some o/\KI o=true/\lp P (k o) s Q X
 | .setObj r o k,s,Q,X=>(∃o₀,s.H r=some o₀/\KI o₀=true)/\KI o=true/\lp P k (s.upd r o) Q X
 | .choose q k,s,Q,X=>if q.forced then lp P (k 0) s Q X else s.q=false/\∀t,lp P (k (q.cut t)) s Q X
 | .sys _ _,_,_,_=>False
 | .program k,s,Q,X=>lp P (k P) s Q X
 | .mark m k,s,Q,X=>((s.q=false/\m=.noRoom)∨∃f,m=.extern f)/\lp P k s Q X
 | .halt h,s,_,X=>X h s
variable{α:Type}
theorem EI{P:Program}(x:Sem α):∀{s:St}{Q Y:α->St->Prop}{X Z:Halt->St->Prop},lp P x s Q X->(∀a s,Q a s->Y a s)->(∀h s,X h s->Z h s)->lp P x s Y Z:=by
 induction x with
 | pure a=>intro s Q Y X Z h K O;exact K _ _ h
 | load m a k U=>intro s Q Y X Z h K O;obtain⟨ac,v,ag,ai⟩:=h;exact⟨ac,v,ag,U _ ai K O⟩
 | store m a v k U=>intro s Q Y X Z h K O;obtain⟨ac,ag,o,ai,am,ap,aq⟩:=h;exact⟨ac,ag,o,ai,am,ap,U aq K O⟩
 | new o k U=>intro s Q Y X Z h K O;exact⟨h.1,λr ac ag=>U _ (h.2 r ac ag) K O⟩
 | shape r k U=>intro s Q Y X Z h K O;obtain⟨o,ac,ag⟩:=h;exact⟨o,ac,U _ ag K O⟩
 | freeze a n k U=>intro s Q Y X Z h K O;exact h
 | frozen a k U=>intro s Q Y X Z h K O;obtain⟨o,ac,ag⟩:=h;exact⟨o,ac,U _ ag K O⟩
 | getObj r k U=>intro s Q Y X Z h K O;obtain⟨o,ac,ag,ai⟩:=h;exact⟨o,ac,ag,U _ ai K O⟩
 | setObj r o k U=>intro s Q Y X Z h K O;obtain⟨ac,ag,ai⟩:=h;exact⟨ac,ag,U ai K O⟩
 | choose q k U=>
  intro s Q Y X Z h K O;simp only[lp] at h ⊢;split;rename_i al;rw[eS al] at h;exact U _ h K O;rename_i al;rw[d9 al] at h;exact⟨h.1,λt=>U _ (h.2 t) K O⟩
 | sys c k U=>intro s Q Y X Z h K O;exact h
 | program k U=>intro s Q Y X Z h K O;exact U _ h K O
 | mark m k U=>intro s Q Y X Z h K O;exact⟨h.1,U h.2 K O⟩
 | halt h=>intro s Q Y X Z h K O;exact O _ _ h
variable{β:Type}
theorem Az{P:Program}(x:Sem α)(f:α->Sem β):∀{s:St}{Q:β->St->Prop}{X:Halt->St->Prop},lp P x s (λa s'=>lp P (f a) s' Q X) X->lp P (x>>=f) s Q X:=by
 show ∀{s:St}{Q:β->St->Prop}{X:Halt->St->Prop},lp P x s (λa s'=>lp P (f a) s' Q X) X->lp P (Sem.bind x f) s Q X
 induction x with
 | pure a=>intro s Q X h;exact h
 | load m a k K=>intro s Q X h;obtain⟨O,v,U,Y⟩:=h;exact⟨O,v,U,K _ Y⟩
 | store m a v k K=>intro s Q X h;obtain⟨O,U,o,Y,ac,ag,ai⟩:=h;exact⟨O,U,o,Y,ac,ag,K ai⟩
 | new o k K=>intro s Q X h;exact⟨h.1,λr O U=>K _ (h.2 r O U)⟩
 | shape r k K=>intro s Q X h;obtain⟨o,O,U⟩:=h;exact⟨o,O,K _ U⟩
 | freeze a n k K=>intro s Q X h;exact h
 | frozen a k K=>intro s Q X h;obtain⟨o,O,U⟩:=h;exact⟨o,O,K _ U⟩
 | getObj r k K=>intro s Q X h;obtain⟨o,O,U,Y⟩:=h;exact⟨o,O,U,K _ Y⟩
 | setObj r o k K=>intro s Q X h;obtain⟨O,U,Y⟩:=h;exact⟨O,U,K Y⟩
 | choose q k K=>
  intro s Q X h;simp only[lp,Sem.bind] at h ⊢;split;rename_i Z;rw[eS Z] at h;exact K _ h;rename_i Z;rw[d9 Z] at h;exact⟨h.1,λt=>K _ (h.2 t)⟩
 | sys c k K=>intro s Q X h;exact h
 | program k K=>intro s Q X h;exact K _ h
 | mark m k K=>intro s Q X h;exact⟨h.1,K h.2⟩
 | halt h=>intro s Q X h;exact h
structure Fr (s:St) (w:World) (s':St) (w':World):Prop where
 size:w.heap.size<=w'.heap.size
 keep:∀b,b<w.heap.size->s.H b=none->w'.heap[b]?=w.heap[b]?
 own:∀b,s'.H b≠none->s.H b≠none∨w.heap.size<=b
 ext:∀b o,s.E b=some o->s'.E b=some o
 Fg:∀b,s'.E b≠none->s.E b≠none∨s.H b≠none∨w.heap.size<=b
 tape:w'.tape=w.tape
 os:w'.os=w.os
 output:w'.output=w.output
theorem Fr.refl(s:St)(w:World):Fr s w s w:=
 ⟨no _,λ_ _ _=>V,λ_ h=>.inl h,λ_ _ h=>h,λ_ h=>.inl h,V,V,V⟩
variable{U:World}
theorem Fr.trans{s K O:St}{Y:World}(h:Fr s w K U)(k:Fr K U O Y):Fr s w O Y where
 size:=qg h.size k.size
 keep b hb Z:=by
  rw[k.keep b (qt hb h.size) ?_,h.keep b hb Z];by_cases ac:K.H b=none;exact ac;rcases h.own b ac with x | x;exact absurd Z x;omega
 own b hb:=by
  rcases k.own b hb with x | x;exact h.own b x;exact .inr (qg h.size x)
 ext b o ag:=k.ext b o (h.ext b o ag)
 Fg b hb:=by
  rcases k.Fg b hb with x | x | x;exact h.Fg b x;rcases h.own b x with y | y;exact .inr (.inl y);exact .inr (.inr y);exact .inr (.inr (qg h.size x))
 tape:=k.tape.trans h.tape
 os:=k.os.trans h.os
 output:=k.output.trans h.output
def Hn(s:St)(w w':World)(b:Nat)(write:Bool):Prop:=
 b<w'.heap.size/\(s.H b≠none∨w.heap.size<=b∨(s.E b≠none/\write=false))
def Ev(s:St)(w w':World)(e:Event):Prop:=
 match e.loc with
 | .cell a=>e.sync=false/\Hn s w w' a.block e.write
 | .obj r=>e.sync=false/\Hn s w w' r e.write
 | .mark (.extern _)=>True
 | .mark .noRoom=>True
 | _=>False
variable{O w':World}{wr:Bool}
theorem Hn.M{s K:St}{b:Nat}(h:Fr s w K O)(Y:w'.heap.size<=U.heap.size)(t:Hn K O w' b wr):Hn s w U b wr:=by
 refine⟨qt t.1 Y,?_⟩;rcases t.2 with x | x | ⟨x,y⟩;rcases h.own b x with z | z;exact .inl z;exact .inr (.inl z);exact .inr (.inl (qg h.size x));rcases h.Fg b x with z | z | z;exact .inr (.inr ⟨z,y⟩);exact .inl z;exact .inr (.inl z)
theorem Ev.M{s K:St}{e:Event}(h:Fr s w K O)(Y:w'.heap.size<=U.heap.size)(t:Ev K O w' e):Ev s w U e:=by
 unfold Ev at t ⊢;split<;>rename_i he<;>simp only[he] at t;exact⟨t.1,t.2.M h Y⟩;exact⟨t.1,t.2.M h Y⟩;trivial;trivial
def LR{α:Type}:Result α->World | .ok _ w=>w | .halt _ w=>w
def fF{α:Type}(Q:α->St->Prop)(X:Halt->St->Prop)(s:St):Result α->Prop | .ok a _=>Q a s | .halt h _=>X h s
theorem UU{s:St}{b:Nat}(h:s.get b=some o)(K:s.H b=none):s.E b≠none:=by
 intro e;unfold St.get at h;rw[e] at h;simp only at h;rw[K] at h;cases h
theorem Rq{s:St}{b:Nat}(f:Fits s w)(U:s.E b=none)(hb:w'.heap[b]?=some o)(Y:∀c,c≠b->∀x,w.heap[c]?=some x->w'.heap[c]?=some x):Fits (s.upd b o) w' where
 e c x K:=by
  have O:c≠b:=λe=>by subst e;simp[St.upd] at K;rw[U] at K;cases K
  exact Y c O x (f.e c x K)
 h c x K:=by
  simp only[St.upd] at K;split at K;rename_i e;subst e;cases K;exact hb;rename_i O;exact Y c O x (f.h c x K)
 d c K:=by
  have O:c≠b:=λe=>by subst e;exact K U
  simp only[St.upd,d9 O];exact f.d c K
theorem OX{P:Program}(x:Sem α):∀{s:St}{w:World}{Q:α->St->Prop}{X:Halt->St->Prop},lp P x s Q X->Fits s w->
  ∃s',Fits s' (LR (x.run P w))/\Fr s w s' (LR (x.run P w))/\(∀e∈x.events P w #[],Ev s w (LR (x.run P w)) e)/\fF Q X s' (x.run P w):=by
 induction x with
 | pure a=>intro s w Q X h f;exact⟨s,f,.refl _ _,by simp[Sem.events_pure'],h⟩
 | load m a k O=>
  intro s w Q X h f;obtain⟨rfl,v,a3,h⟩:=h;let⟨o,K,bn⟩:=qW.1 a3;have hw:=f.get K;have a4:w.cell? a=some v:=by rw[TQ hw,bn]
  have U:(Sem.load Mode.plain a k).run P w=(k v).run P w:=by simp[Sem.run,a4]
  have Y:(Sem.load Mode.plain a k).events P w #[]=#[⟨.cell a,false,false⟩]++(k v).events P w #[]:=by
   rw[← Sem.events_acc];simp only[Sem.events,Sem.runT,a4];rfl
  rw[U,Y];let⟨s',ac,Z,ag,ai⟩:=O v h f;refine⟨s',ac,Z,λe he=>?_,ai⟩;rcases qV.1 he with he | he;simp at he;subst he;refine⟨V,qt (f.lt K) Z.size,?_⟩;by_cases ay:s.H a.block=none;refine .inr (.inr ⟨?_,V⟩);exact UU K ay;exact .inl ay;exact ag e he
 | store m a v k O=>
  intro s w Q X h f;obtain⟨rfl,a3,o,K,a4,bo,h⟩:=h;have hw:=f.h _ _ K;let⟨u,hu⟩:=sj.1 a4;have a9:w.cell? a=some u:=by rw[TQ hw,hu]
  have bb:w.frozen? a=false:=by rw[Ty hw,bo]
  have a5:=f.XF K;obtain⟨a7,a8,f0,rfl⟩:∃c e f,o=.cells c e f:=by cases o<;>simp[cellAt] at hu;exact⟨_,_,_,V⟩
  have bv:(w.setCell a v).heap[a.block]?=some (LD (.cells a7 a8 f0) a v):=by
   simp[World.setCell,LD,qT,hw]
  have az:∀c,c≠a.block->(w.setCell a v).heap[c]?=w.heap[c]? :=by
   intro c ap;simp[World.setCell,qT,p6 ap]
  have am:s.E a.block=none:=by
   cases am:s.E a.block with
   | none=>rfl
   | some x=>have:=f.d a.block (by rw[am];simp);rw[K] at this;cases this
  have a0:Fits (s.upd a.block (LD (.cells a7 a8 f0) a v)) (w.setCell a v):=Rq f am bv (λc ap x aq=>by rw[az c ap];exact aq);have U:(Sem.store Mode.plain a v k).run P w=k.run P (w.setCell a v):=by
   cases v<;>first | (simp[C5] at a3;done) | simp[Sem.run,a9,bb]
  have Y:(Sem.store Mode.plain a v k).events P w #[]=#[⟨.cell a,true,false⟩]++k.events P (w.setCell a v) #[]:=by
   rw[← Sem.events_acc];cases v<;>first | (simp[C5] at a3;done) | (simp only[Sem.events,Sem.runT,a9,bb];rfl)
  have al:Fr s w (s.upd a.block (LD (.cells a7 a8 f0) a v)) (w.setCell a v):=by
   refine⟨by simp[World.setCell],λb hb av=>az b (λe=>by subst e;rw[K] at av;cases av),λb hb=>?_,λ_ _ h=>h,λ_ h=>.inl h,V,V,V⟩;simp only[St.upd] at hb;split at hb;rename_i e;subst e;exact .inl (by rw[K];simp);exact .inl hb
  rw[U,Y];let⟨s',ac,Z,ag,ai⟩:=O h a0;refine⟨s',ac,al.trans Z,λe he=>?_,ai⟩;rcases qV.1 he with he | he;simp at he;subst he;exact⟨V,qt a5 (al.trans Z).size,.inl (by rw[K];simp)⟩;exact(ag e he).M al (no _)
 | new o k O=>
  intro s w Q X h f;have be:s.E w.heap.size=none:=by
   cases am:s.E w.heap.size with
   | none=>rfl
   | some x=>have:=f.e _ _ am;simp at this
  have bw:s.H w.heap.size=none:=by
   cases am:s.H w.heap.size with
   | none=>rfl
   | some x=>have:=f.h _ _ am;simp at this
  have U:(Sem.new o k).run P w=(k w.heap.size).run P {w with heap:=w.heap.push o}:=by simp[Sem.run]
  have Y:(Sem.new o k).events P w #[]=(k w.heap.size).events P {w with heap:=w.heap.push o} #[]:=by simp only[Sem.events,Sem.runT]
  rw[U,Y];have a0:Fits (s.upd w.heap.size o) {w with heap:=w.heap.push o}:=Rq f be (by simp) (λc ap x aq=>by
   have:c<w.heap.size:=by
    rcases mt c w.heap.size with a1 | a1;exact a1;simp[py a1] at aq
   simp[sX,tL this,aq])
  have al:Fr s w (s.upd w.heap.size o) {w with heap:=w.heap.push o}:=by
   refine⟨by simp,λb hb av=>by simp[sX,tL hb],λb hb=>?_,λ_ _ h=>h,λ_ h=>.inl h,V,V,V⟩;simp only[St.upd] at hb;split at hb;rename_i e;subst e;exact .inr (no _);exact .inl hb
  let⟨s',ac,Z,ag,ai⟩:=O _ (h.2 _ be bw) a0;exact⟨s',ac,al.trans Z,λe he=>(ag e he).M al (no _),ai⟩
 | shape r k O=>
  intro s w Q X h f;obtain⟨o,K,h⟩:=h;have a2:=Yi (f.get K);have U:(Sem.shape r k).run P w=(k (shapeOf o)).run P w:=by simp[Sem.run,a2]
  have Y:(Sem.shape r k).events P w #[]=(k (shapeOf o)).events P w #[]:=by simp only[Sem.events,Sem.runT,a2]
  rw[U,Y];exact O _ h f
 | freeze a n k O=>intro s w Q X h f;exact h.elim
 | frozen a k O=>
  intro s w Q X h f;obtain⟨o,K,h⟩:=h;have a2:=Ty (a:=a) (f.get K);have U:(Sem.frozen a k).run P w=(k (frozenAt o a)).run P w:=by simp[Sem.run,a2]
  have Y:(Sem.frozen a k).events P w #[]=(k (frozenAt o a)).events P w #[]:=by simp only[Sem.events,Sem.runT,a2]
  rw[U,Y];exact O _ h f
 | getObj r k O=>
  intro s w Q X h f;obtain⟨o,K,a6,h⟩:=h;have hw:=f.get K;have U:(Sem.getObj r k).run P w=(k o).run P w:=by cases o<;>simp[KI] at a6<;>simp[Sem.run,hw]
  have Y:(Sem.getObj r k).events P w #[]=#[⟨.obj r,false,false⟩]++(k o).events P w #[]:=by
   rw[← Sem.events_acc];cases o<;>simp[KI] at a6<;>(simp only[Sem.events,Sem.runT,hw,Obj.isChan];rfl)
  rw[U,Y];let⟨s',ac,Z,ag,ai⟩:=O o h f;refine⟨s',ac,Z,λe he=>?_,ai⟩;rcases qV.1 he with he | he;simp at he;subst he;refine⟨V,qt (f.lt K) Z.size,?_⟩;by_cases ay:s.H r=none;refine .inr (.inr ⟨?_,V⟩);exact UU K ay;exact .inl ay;exact ag e he
 | setObj r o k O=>
  intro s w Q X h f;obtain⟨⟨o₀,K,bi⟩,a6,h⟩:=h;have hw:=f.h _ _ K;have a5:=f.XF K;have am:s.E r=none:=by
   cases am:s.E r with
   | none=>rfl
   | some x=>have:=f.d r (by rw[am];simp);rw[K] at this;cases this
  have U:(Sem.setObj r o k).run P w=k.run P {w with heap:=w.heap.setIfInBounds r o}:=by
   cases o₀<;>simp[KI] at bi<;>simp[Sem.run,hw]
  have Y:(Sem.setObj r o k).events P w #[]=#[⟨.obj r,true,false⟩]++k.events P {w with heap:=w.heap.setIfInBounds r o} #[]:=by
   rw[← Sem.events_acc];cases o₀<;>simp[KI] at bi<;>cases o<;>simp[KI] at a6<;>(simp only[Sem.events,Sem.runT,hw,Obj.isChan];rfl)
  have az:∀c,c≠r->(w.heap.setIfInBounds r o)[c]?=w.heap[c]? :=λc ap=>by simp[p6 ap]
  have a0:Fits (s.upd r o) {w with heap:=w.heap.setIfInBounds r o}:=Rq f am (by simp[a5]) (λc ap x aq=>by show(w.heap.setIfInBounds r o)[c]?=_;rw[az c ap];exact aq);have al:Fr s w (s.upd r o) {w with heap:=w.heap.setIfInBounds r o}:=by
   refine⟨by simp,λb hb av=>az b (λe=>by subst e;rw[K] at av;cases av),λb hb=>?_,λ_ _ h=>h,λ_ h=>.inl h,V,V,V⟩;simp only[St.upd] at hb;split at hb;rename_i e;subst e;exact .inl (by rw[K];simp);exact .inl hb
  rw[U,Y];let⟨s',ac,Z,ag,ai⟩:=O h a0;refine⟨s',ac,al.trans Z,λe he=>?_,ai⟩;rcases qV.1 he with he | he;simp at he;subst he;exact⟨V,qt a5 (al.trans Z).size,.inl (by rw[K];simp)⟩;exact(ag e he).M al (no _)
 | choose q k O=>
  intro s w Q X h f;simp only[lp] at h;by_cases aw:q.forced
  .rw [eS aw] at h;have U:(Sem.choose q k).run P w=(k 0).run P w:=by simp[Sem.run,aw]
   have Y:(Sem.choose q k).events P w #[]=(k 0).events P w #[]:=by simp only[Sem.events,Sem.runT];rw[eS aw]
   rw[U,Y];exact O _ h f
  .rw [d9 aw] at h;have U:(Sem.choose q k).run P w=(k (q.cut (w.tape w.drawn q))).run P {w with drawn:=w.drawn+1}:=by simp[Sem.run,aw]
   have Y:(Sem.choose q k).events P w #[]=(k (q.cut (w.tape w.drawn q))).events P {w with drawn:=w.drawn+1} #[]:=by simp only[Sem.events,Sem.runT];rw[d9 aw]
   rw[U,Y];have al:Fr s w s {w with drawn:=w.drawn+1}:=⟨no _,λ_ _ _=>rfl,λ_ h=>.inl h,λ_ _ h=>h,λ_ h=>.inl h,rfl,rfl,rfl⟩;let⟨s',ac,Z,ag,ai⟩:=O _ (h.2 (w.tape w.drawn q)) (⟨f.e,f.h,f.d⟩:Fits s {w with drawn:=w.drawn+1});exact⟨s',ac,al.trans Z,λe he=>(ag e he).M al (no _),ai⟩
 | sys c k O=>intro s w Q X h f;exact h.elim
 | program k O=>
  intro s w Q X h f;have U:(Sem.program k).run P w=(k P).run P w:=by simp[Sem.run]
  have Y:(Sem.program k).events P w #[]=(k P).events P w #[]:=by simp only[Sem.events,Sem.runT]
  rw[U,Y];exact O _ h f
 | mark m k O=>
  intro s w Q X h f;have U:(Sem.mark m k).run P w=k.run P w:=by simp[Sem.run]
  have Y:(Sem.mark m k).events P w #[]=#[⟨.mark m,false,true⟩]++k.events P w #[]:=by
   rw[← Sem.events_acc];simp only[Sem.events,Sem.runT];rfl
  rw[U,Y];obtain⟨hm,h⟩:=h;let⟨s',ac,Z,ag,ai⟩:=O h f;refine⟨s',ac,Z,λe he=>?_,ai⟩;rcases qV.1 he with he | he;simp at he;subst he;rcases hm with⟨_,rfl⟩ | ⟨g,rfl⟩<;>trivial;exact ag e he
 | halt h=>intro s w Q X a1 f;exact⟨s,f,.refl _ _,by simp[Sem.events_halt],a1⟩
variable{es:Array Event}
theorem TA{P:Program}{fn:FuncId}(h:∀e∈es,∃f,e.loc=.mark (.extern f)):seen P fn es=#[]:=by
 rw[seen_def];have:∀(l:List Event) (q:Bool),(∀e∈l,∃f,e.loc=.mark (.extern f))->(l.foldl (seenStep λf=>(P.funcs[f]?).any (·.norace)) (q,#[])).2=#[]:=by
  intro l
  induction l with
  | nil=>intro q _;rfl
  | cons e l K=>
   intro q h;obtain⟨f,O⟩:=h e (by simp);rw[rq];have:seenStep (λf=>(P.funcs[f]?).any (·.norace)) (q,#[]) e=((P.funcs[f]?).any (·.norace),#[]):=by simp[seenStep,O]
   rw[this];exact K _ λx U=>h x (by simp[U])
 exact this es.toList _ λe he=>h e (rZ.1 he)
def St.quiet:St:=⟨λ_=>none,λ_=>none,true⟩
theorem UI{P:Program}(x:Sem α):∀{Q:α->St->Prop}{X:Halt->St->Prop},lp P x .quiet Q X->
  ∃es,(∀w,x.events P w #[]=es)/\(∀e∈es,∃f,e.loc=.mark (.extern f))/\((∃a,Q a .quiet/\(∀w,x.run P w=.ok a w))∨(∃a,X a .quiet/\(∀w,x.run P w=.halt a w))):=by
 induction x with
 | pure a=>intro Q X h;exact⟨#[],λw=>by simp[Sem.events_pure'],by simp,.inl ⟨a,h,λw=>rfl⟩⟩
 | load m a k K=>intro Q X h;obtain⟨_,v,Z,_⟩:=h;simp[St.cell?,St.get,St.quiet] at Z
 | store m a v k K=>intro Q X h;obtain⟨_,_,o,ac,_⟩:=h;cases ac
 | new o k K=>intro Q X h;cases h.1
 | shape r k K=>intro Q X h;obtain⟨o,O,_⟩:=h;simp[St.get,St.quiet] at O
 | freeze a n k K=>intro Q X h;exact h.elim
 | frozen a k K=>intro Q X h;obtain⟨o,O,_⟩:=h;simp[St.get,St.quiet] at O
 | getObj r k K=>intro Q X h;obtain⟨o,O,_⟩:=h;simp[St.get,St.quiet] at O
 | setObj r o k K=>intro Q X h;obtain⟨⟨o,O,_⟩,_⟩:=h;cases O
 | choose q k K=>
  intro Q X h;simp only[lp] at h;by_cases U:q.forced
  .rw [eS U] at h;have Y:∀w,(Sem.choose q k).run P w=(k 0).run P w:=λw=>by simp[Sem.run,U]
   have e2:∀w,(Sem.choose q k).events P w #[]=(k 0).events P w #[]:=λw=>by simp only[Sem.events,Sem.runT];rw[eS U]
   simpa only[Y,e2] using K _ h
  .rw [d9 U] at h;cases h.1
 | sys c k K=>intro Q X h;exact h.elim
 | program k K=>
  intro Q X h;have Y:∀w,(Sem.program k).run P w=(k P).run P w:=λw=>by simp[Sem.run]
  have e2:∀w,(Sem.program k).events P w #[]=(k P).events P w #[]:=λw=>by simp only[Sem.events,Sem.runT]
  simpa only[Y,e2] using K _ h
 | mark m k K=>
  intro Q X h;obtain⟨hm,h⟩:=h;let⟨es,O,Z,ac⟩:=K h;have Y:∀w,(Sem.mark m k).run P w=k.run P w:=λw=>by simp[Sem.run]
  have e2:∀w,(Sem.mark m k).events P w #[]=#[⟨.mark m,false,true⟩]++k.events P w #[]:=λw=>by rw[← Sem.events_acc];simp only[Sem.events,Sem.runT];rfl
  refine⟨#[⟨.mark m,false,true⟩]++es,λw=>by rw[e2,O],λe he=>?_,by simpa only[Y] using ac⟩;rcases qV.1 he with he | he;simp at he;subst he;rcases hm with⟨U,_⟩ | hm;cases U;obtain⟨f,rfl⟩:=hm;exact⟨f,V⟩;exact Z e he
 | halt h=>intro Q X ag;exact⟨#[],λw=>by simp[Sem.events_halt],by simp,.inr ⟨h,ag,λw=>rfl⟩⟩
def Wl(P:Program)(main:Bool)(g:Goroutine)(s:St)(K:Gs_):Prop:=
 g.status=.running/\(∀w,Fits s w->
  ∃g' s' w' es,stepG P main g w=.go g' w' es/\K g' s'/\Fits s' w'/\Fr s w s' w'/\(∀e∈es,Ev s w w' e))/\
  (s=.quiet->∃g',(∀w,stepG P main g w=.go g' w #[])/\K g' .quiet)
structure Cu (s s₀:St):Prop where
 ext:∀b o,s.E b=some o->s₀.E b=some o
 own:∀b o,s₀.H b=some o->s.H b=some o
 Fg:∀b o,s₀.E b=some o->s.E b=some o∨(s.H b=some o/\s₀.H b=none)
 q:s₀.q=s.q
theorem Cu.refl(s:St):Cu s s:=⟨λ_ _ h=>h,λ_ _ h=>h,λ_ _ h=>.inl h,V⟩
variable{s₀:St}
theorem Cu.fits{s:St}(g:Cu s s₀)(f:Fits s w):Fits s₀ w where
 e b o h:=by
  rcases g.Fg b o h with x | x;exact f.e _ _ x;exact f.h _ _ x.1
 h b o h:=f.h _ _ (g.own _ _ h)
 d b h:=by
  cases K:s₀.E b with
  | none=>exact absurd K h
  | some o=>
   rcases g.Fg b o K with x | x
   .cases O:s₀.H b with
    | none=>rfl
    | some y=>have:=g.own _ _ O;rw[f.d b (by rw[x];simp)] at this;cases this
   .exact x.2
theorem IG{x:Option α}(h:x≠none):∃a,x=some a:=by cases x<;>simp at h;exact⟨_,rfl⟩
theorem Cu.fr{s s':St}(g:Cu s s₀)(f:Fr s₀ w s' w'):Fr s w s' w' where
 size:=f.size
 keep b hb O:=f.keep b hb (by
  cases h:s₀.H b with
  | none=>rfl
  | some o=>rw[g.own _ _ h] at O;cases O)
 own b hb:=(f.own b hb).imp (λh=>by let⟨o,K⟩:=IG h;rw[g.own _ _ K];simp) id
 ext b o h:=f.ext _ _ (g.ext _ _ h)
 Fg b hb:=by
  rcases f.Fg b hb with h | h | h;let⟨o,K⟩:=IG h;rcases g.Fg _ _ K with x | x;exact .inl (by rw[x];simp);exact .inr (.inl (by rw[x.1];simp));let⟨o,K⟩:=IG h;exact .inr (.inl (by rw[g.own _ _ K];simp));exact .inr (.inr h)
 tape:=f.tape
 os:=f.os
 output:=f.output
theorem Cu.Hn{s:St}{b:Nat}(g:Cu s s₀)(t:Hn s₀ w w' b wr):Hn s w w' b wr:=by
 refine⟨t.1,?_⟩;rcases t.2 with h | h | ⟨h,hw⟩;let⟨o,K⟩:=IG h;exact .inl (by rw[g.own _ _ K];simp);exact .inr (.inl h);let⟨o,K⟩:=IG h;rcases g.Fg _ _ K with x | x;exact .inr (.inr ⟨by rw[x];simp,hw⟩);exact .inl (by rw[x.1];simp)
theorem Cu.ev{s:St}{e:Event}(g:Cu s s₀)(t:Ev s₀ w w' e):Ev s w w' e:=by
 unfold Ev at t ⊢;split<;>rename_i he<;>simp only[he] at t;exact⟨t.1,g.Hn t.2⟩;exact⟨t.1,g.Hn t.2⟩;trivial;trivial
theorem Cu.quiet(g:Cu .quiet s₀):s₀=.quiet:=by
 obtain⟨E,H,q⟩:=s₀;have K:E=λ_=>none:=by
  funext b;cases h:E b with
  | none=>rfl
  | some o=>rcases g.Fg b o h with x | ⟨x,_⟩<;>cases x
 have O:H=λ_=>none:=by
  funext b;cases h:H b with
  | none=>rfl
  | some o=>cases g.own b o h
 have U:q=true:=g.q;subst K O U;rfl
inductive Rk:Type where
 | leaf:Rk
 | node (f:World->Rk):Rk
def Rk.sub(a b:Rk):Prop:=∃f w,b=.node f/\a=f w
theorem Rk.wf:WellFounded Rk.sub:=⟨λr=>by
 induction r with
 | leaf=>exact⟨_,λa ⟨f,w,h,_⟩=>by cases h⟩
 | node f K=>exact⟨_,λa ⟨g,w,h,e⟩=>by cases h;subst e;exact K w⟩⟩
def Jr(P:Program)(main:Bool)(Q:Gs_):Rk->Gs_
 | .leaf,g,s=>Q g s
 | .node f,g,s=>Q g s∨(g.status=.running/\∀w,Fits s w->
  ∃g' s' w' es,stepG P main g w=.go g' w' es/\Jr P main Q (f w) g' s'/\Fits s' w'/\Fr s w s' w'/\(∀e∈es,Ev s w w' e)/\(s=.quiet->s'=.quiet/\w'=w/\es=#[]))
structure Judge (P:Program) where
 main:Bool
 ok:(Gs_)->Gs_
 stop:∀{Q g s},Q g s->ok Q g s
 step:∀{Q g s},Wl P main g s (ok Q)->ok Q g s
 trans:∀{Q R g s},ok Q g s->(∀g' s',Q g' s'->ok R g' s')->ok R g s
 ghost:∀{Q g s s₀},Cu s s₀->ok Q g s₀->ok Q g s
def JQ(Q:Gs_)(g:Goroutine)(s:St):Prop:=∃s₀,Cu s s₀/\Q g s₀
theorem Cu.trans{a b c:St}(h:Cu a b)(k:Cu b c):Cu a c where
 ext x o y:=k.ext _ _ (h.ext _ _ y)
 own x o y:=h.own _ _ (k.own _ _ y)
 Fg x o y:=by
  rcases k.Fg x o y with z | z
  .rcases h.Fg x o z with u | u;exact .inl u
   .refine .inr ⟨u.1,?_⟩;cases K:c.H x with
    | none=>rfl
    | some v=>have:=k.own _ _ K;rw[u.2] at this;cases this
  .exact .inr ⟨h.own _ _ z.1,z.2⟩
 q:=k.q.trans h.q
def A0(P:Program)(main:Bool):Judge P where
 main:=main
 ok Q g s:=∃r,Jr P main (JQ Q) r g s
 stop h:=⟨.leaf,_,.refl _,h⟩
 step {Q g s} h:=by
  obtain⟨U,h,hu⟩:=h;have ai:∀w,∃r:Rk,Fits s w->∃g' s' w' es,stepG P main g w=.go g' w' es/\Jr P main (JQ Q) r g' s'/\Fits s' w'/\Fr s w s' w'/\(∀e∈es,Ev s w w' e)/\(s=.quiet->s'=.quiet/\w'=w/\es=#[]):=by
   intro w;by_cases f:Fits s w
   .by_cases e:s=.quiet
    .let⟨g',K,r,O⟩:=hu e;exact⟨r,λ_=>⟨g',.quiet,w,#[],K w,O,e▸f,e▸ .refl _ _,by simp,λ_=>⟨V,V,V⟩⟩⟩
    .let⟨g',s',w',es,K,⟨r,O⟩,ac,al,am⟩:=h w f;exact⟨r,λ_=>⟨g',s',w',es,K,O,ac,al,am,λx=>absurd x e⟩⟩
   .exact⟨.leaf,λx=>absurd x f⟩
  exact⟨.node λw=>Classical.choose (ai w),.inr ⟨U,λw f=>qG (ai w) f⟩⟩
 trans {Q R g s} h k:=by
  obtain⟨r,h⟩:=h;have aq:∀(r:Rk) {g:Goroutine}{s s₀:St},Cu s s₀->Jr P main (JQ R) r g s₀->Jr P main (JQ R) r g s:=by
   intro r g s s₀ Y Z;cases r with
   | leaf=>obtain⟨ag,K,O⟩:=Z;exact⟨ag,Y.trans K,O⟩
   | node f=>
    rcases Z with⟨ag,K,O⟩ | ⟨U,Z⟩
    .exact .inl ⟨ag,Y.trans K,O⟩
    .exact .inr ⟨U,λw f=>let ⟨g',s',w',es,K,O,ac,al,am,ap⟩:=Z w (Y.fits f);⟨g',s',w',es,K,O,ac,Y.fr al,λe he=>Y.ev (am e he),λe=>ap (by subst e;exact Y.quiet)⟩⟩
  induction r generalizing g s with
  | leaf=>
   obtain⟨s₀,K,O⟩:=h;let⟨r,U⟩:=k _ _ O;exact⟨r,aq r K U⟩
  | node f aw=>
   rcases h with⟨s₀,K,O⟩ | ⟨U,h⟩
   .let⟨r,U⟩:=k _ _ O;exact⟨r,aq r K U⟩
   .have ai:∀w,∃r:Rk,Fits s w->∃g' s' w' es,stepG P main g w=.go g' w' es/\Jr P main (JQ R) r g' s'/\Fits s' w'/\Fr s w s' w'/\(∀e∈es,Ev s w w' e)/\(s=.quiet->s'=.quiet/\w'=w/\es=#[]):=by
     intro w;by_cases av:Fits s w
     .let⟨g',s',w',es,K,O,ac⟩:=h w av;let⟨r,U⟩:=aw w O;exact⟨r,λ_=>⟨g',s',w',es,K,U,ac⟩⟩
     .exact⟨.leaf,λx=>absurd x av⟩
    exact⟨.node λw=>Classical.choose (ai w),.inr ⟨U,λw f=>qG (ai w) f⟩⟩
 ghost {Q g s s₀} Y h:=by
  obtain⟨r,Z⟩:=h;refine⟨r,?_⟩;cases r with
  | leaf=>obtain⟨ag,K,O⟩:=Z;exact⟨ag,Y.trans K,O⟩
  | node f=>
   rcases Z with⟨ag,K,O⟩ | ⟨U,Z⟩
   .exact .inl ⟨ag,Y.trans K,O⟩
   .exact .inr ⟨U,λw f=>let ⟨g',s',w',es,K,O,ac,al,am,ap⟩:=Z w (Y.fits f);⟨g',s',w',es,K,O,ac,Y.fr al,λe he=>Y.ev (am e he),λe=>ap (by subst e;exact Y.quiet)⟩⟩
def Lv(P:Program)(Q:Gs_):Nat->Goroutine->Prop
 | 0,g=>Q g .quiet
 | n+1,g=>Q g .quiet∨(g.status=.running/\∃g',(∀w,stepG P false g w=.go g' w #[])/\Lv P Q n g')
def IM(P:Program):Judge P where
 main:=false
 ok Q g s:=s=.quiet->∃n,Lv P Q n g
 stop h e:=⟨0,by subst e;exact h⟩
 step {Q g s} h e:=by
  let⟨g',K,O⟩:=h.2.2 e;let⟨n,U⟩:=O V;exact⟨n+1,.inr ⟨h.1,g',K,U⟩⟩
 trans {Q R g s} h k e:=by
  let⟨n,U⟩:=h e;have:∀n g,Lv P Q n g->∃m,Lv P R m g:=by
   intro n
   induction n with
   | zero=>intro g h;exact k _ _ h rfl
   | succ n Y=>
    intro g h;rcases h with h | ⟨Z,g',K,O⟩
    .exact k _ _ h V
    .let⟨m,hm⟩:=Y g' O;exact⟨m+1,.inr ⟨Z,g',K,hm⟩⟩
  exact this n g U
 ghost {Q g s s₀} ac h e:=by subst e;exact h ac.quiet
def fr(b:Frame)(T:Av_)(ds:Ld_)(todo:Li_):Frame:={b with tmps:=T,todo:=todo,defers:=ds,mode:=.run}
def EJ(b:Frame)(T:Av_)(ds:Ld_)(todo:Li_):Frame:={b with tmps:=T,todo:=todo,defers:=ds,mode:=.returning}
def BL(T:Av_):Operand->Value
 | .tmp t=>T.getD t undef
 | .const v=>v
 | .global g=>.pointer (some ⟨g,0,none⟩)
 | .func f=>.func (.func f) #[] #[]
abbrev Env:=List (Nat×Value)
def look:Env->Nat->Option Value
 | [],_=>none
 | (t,v)::L,u=>if t=u then some v else look L u
def ev(L:Env):Operand->Option Value
 | .tmp t=>look L t
 | .const v=>some v
 | .global g=>some (.pointer (some ⟨g,0,none⟩))
 | .func f=>some (.func (.func f) #[] #[])
structure Has (n:Nat) (L:Env) (T:Av_):Prop where
 size:T.size=n
 at_:∀t v,look L t=some v->T.getD t undef=v
variable{T:Av_}
theorem Has.ev{n:Nat}{L:Env}(h:Has n L T){x:Operand}{v:Value}(e:ev L x=some v):BL T x=v:=by
 cases x with
 | tmp t=>exact h.at_ t v e
 | const u=>cases e;rfl
 | global g=>cases e;rfl
 | func f=>cases e;rfl
def CV(T:Av_):Option Tmp->Value->Av_
 | some d,v=>T.setIfInBounds d v
 | none,_=>T
def Ay(L:Env):Option Tmp->Value->Env
 | some d,v=>(d,v)::L
 | none,_=>L
def Bo(n:Nat):Option Tmp->Bool
 | some d=>d<n
 | none=>true
theorem aI(T:Av_)(d:Nat)(v:Value)(h:d<T.size)(t:Nat):(T.setIfInBounds d v).getD t undef=if d=t then v else T.getD t undef:=by
 by_cases e:d=t;subst e;simp[pd,h];simp[pd,e]
theorem Has.put{n:Nat}{L:Env}(h:Has n L T){d:Option Tmp}(hd:Bo n d=true)(v:Value):Has n (Ay L d v) (CV T d v):=by
 cases d with
 | none=>exact h
 | some d=>
  have K:d<T.size:=by rw[h.size];simpa [Bo] using hd
  refine⟨by simp[CV,h.size],λt u hu=>?_⟩;simp only[CV,aI T d v K];simp only[Ay,look] at hu;split at hu;rename_i e;rw[eS e];exact f5 hu;rename_i e;rw[d9 e];exact h.at_ t u hu
def Sub:Env->Env->Prop
 | [],_=>True
 | (t,v)::L',L=>look L t=some v/\Sub L' L
theorem Sub.look{L:Env}:∀{L':Env},Sub L' L->∀t v,look L' t=some v->Pal.look L t=some v
 | [],_,t,v,e=>by simp[Pal.look] at e
 | (u,w)::L',h,t,v,e=>by
  simp only[Pal.look] at e
  split at e;rename_i K;subst K;cases e;exact h.1;exact Sub.look h.2 t v e
theorem Has.sub{n:Nat}{L L':Env}(h:Has n L T)(s:Sub L' L):Has n L' T:=⟨h.size,λt v e=>h.at_ t v (s.look t v e)⟩
variable {P:Program}
section
variable (J:Judge P)(Q:Gs_)
def JL(b:Frame)(n:Nat)(L:Env)(ds:Ld_)(todo:Li_)(cs:Lf_)(s:St):Prop:=
 ∀T,Has n L T->J.ok Q (G (fr b T ds todo) cs) s
end
variable {J:Judge P}{Q:Gs_}{L L':Env}{ds:Ld_}{k:Li_}{cs:Lf_}{s s':St}
variable{l:Nat}
section
variable {b:Frame}{n:Nat}
theorem Judge.Dv{g g':Goroutine}(K:g.status=.running)(h:∀w,stepG P J.main g w=.go g' w)(k:J.ok Q g' s):J.ok Q g s:=
 J.step ⟨K,λw f=>⟨g',s,w,#[],h w,k,f,.refl _ _,by simp⟩,λe=>⟨g',h,e▸k⟩⟩
theorem Fz(h:Sub L' L)(k':JL J Q b n L' ds k cs s):JL J Q b n L ds k cs s:=λT K=>k' T (K.sub h)
theorem JL.ghost(h:Cu s s')(k':JL J Q b n L ds k cs s'):JL J Q b n L ds k cs s:=λT K=>J.ghost h (k' T K)
theorem JL.skip(h:JL J Q b n L ds k cs s):JL J Q b n L ds (.code .skip::k) cs s:=λT K=>Judge.Dv V (λw=>by simp[G,stepG,stepG.exec,fr]) (h T K)
theorem JL.label(h:JL J Q b n L ds k cs s):JL J Q b n L ds (.code (.label l)::k) cs s:=λT K=>Judge.Dv V (λw=>by simp[G,stepG,stepG.exec,fr]) (h T K)
theorem OG{i:Nat}(h:JL J Q b n L ds k cs s):JL J Q b n L ds (.inBlock i::k) cs s:=λT K=>Judge.Dv V (λw=>by simp[G,stepG,stepG.exec,fr]) (h T K)
theorem Ya{c:Code}(h:JL J Q b n L ds k cs s):JL J Q b n L ds (.inScope c::k) cs s:=λT K=>Judge.Dv V (λw=>by simp[G,stepG,stepG.exec,fr]) (h T K)
theorem JL.seq{x y:Code}(h:JL J Q b n L ds (.code x:: .code y::k) cs s):JL J Q b n L ds (.code (.seq x y)::k) cs s:=λT K=>Judge.Dv V (λw=>by simp[G,stepG,stepG.exec,fr]) (h T K)
theorem JL.block{i:Nat}{c:Code}(h:JL J Q b n L ds (.code c:: .inBlock i::k) cs s):JL J Q b n L ds (.code (.block i c)::k) cs s:=λT K=>Judge.Dv V (λw=>by simp[G,stepG,stepG.exec,fr]) (h T K)
theorem JL.scope{c:Code}(h:JL J Q b n L ds (.code c:: .inScope c::k) cs s):JL J Q b n L ds (.code (.scope c)::k) cs s:=λT K=>Judge.Dv V (λw=>by simp[G,stepG,stepG.exec,fr]) (h T K)
theorem Jo{c:Code}(h:JL J Q b n L ds (.code c:: .inLoop c::k) cs s):JL J Q b n L ds (.code (.loop c)::k) cs s:=λT K=>Judge.Dv V (λw=>by simp[G,stepG,stepG.exec,fr]) (h T K)
theorem JL.again{c:Code}(h:JL J Q b n L ds (.code c:: .inLoop c::k) cs s):JL J Q b n L ds (.inLoop c::k) cs s:=λT K=>Judge.Dv V (λw=>by simp[G,stepG,stepG.exec,fr]) (h T K)
theorem JL.exit{i:Nat}{k':Li_}(K:exitTo i k=some k')(h:JL J Q b n L ds k' cs s):JL J Q b n L ds (.code (.exit i)::k) cs s:=λT O=>Judge.Dv V (λw=>by simp[G,stepG,stepG.exec,fr,K]) (h T O)
theorem V4(T:Av_)(todo:Li_)(x:Operand):(fr b T ds todo).eval x=BL T x:=by cases x<;>rfl
theorem Vg(T:Av_)(todo:Li_):(fr b T ds todo).eval=BL T:=funext (V4 T todo)
theorem JL.cond{c:Operand}{x y:Code}{t:Bool}(U:ev L c=some (.bool t))(h:JL J Q b n L ds (.code (if t then x else y)::k) cs s):JL J Q b n L ds (.code (.cond c x y)::k) cs s:=λT O=>
 Judge.Dv V (λw=>by
  have K:=V4 (b:=b) (ds:=ds) T (.code (.cond c x y)::k) c
  rw[O.ev U] at K
  simp only[fr] at K
  simp[G,stepG,stepG.exec,fr,K]) (h T O)
theorem ZQ{c:Operand}{x y:Code}(K:ev L c=some (.bool true))(h:JL J Q b n L ds (.code x::k) cs s):JL J Q b n L ds (.code (.cond c x y)::k) cs s:=JL.cond K h
theorem ZT{c:Operand}{x y:Code}(K:ev L c=some (.bool false))(h:JL J Q b n L ds (.code y::k) cs s):JL J Q b n L ds (.code (.cond c x y)::k) cs s:=JL.cond K h
theorem Ry{c:Operand}{x y:Code}{t:Bool}(K:ev L c=some (.bool t))(O:t=true->JL J Q b n L ds (.code x::k) cs s)(U:t=false->JL J Q b n L ds (.code y::k) cs s):JL J Q b n L ds (.code (.cond c x y)::k) cs s:=by
 cases t;exact JL.cond K (U V);exact JL.cond K (O V)
theorem GN{c:Operand}{x y:Code}{p:Prop} [Decidable p] (K:ev L c=some (.bool (decide p)))(O:p->JL J Q b n L ds (.code x::k) cs s)(U:¬p->JL J Q b n L ds (.code y::k) cs s):JL J Q b n L ds (.code (.cond c x y)::k) cs s:=
 Ry K (λh=>O (qM h)) (λh=>U (s3 h))
theorem JL.loop{c:Code}(I:α->Prop)(O:α->Nat)(U:α->Env)(Y:α->St)(Z:α)(ac:I Z)(ag:L=U Z)(ai:s=Y Z)
  (round:∀a,I a->(∀K,I K->O K<O a->JL J Q b n (U K) ds (.inLoop c::k) cs (Y K))->JL J Q b n (U a) ds (.code c:: .inLoop c::k) cs (Y a)):
  JL J Q b n L ds (.code (.loop c)::k) cs s:=by
 refine Jo ?_;subst ag ai;have key:∀m a,O a=m->I a->JL J Q b n (U a) ds (.code c:: .inLoop c::k) cs (Y a):=by
  intro m
  induction m using Nat.strongRecOn with
  | _ m al=>intro a hm am;exact round a am λK ap aq=>JL.again (al (O K) (hm▸aq) K rfl ap)
 exact key _ Z V ac
theorem JL.region{id:Nat}{ops:Ao_}(h:JL J Q b n L ds (.inRegion ops (List.range ops.size)::k) cs s):JL J Q b n L ds (.code (.region id ops false)::k) cs s:=λT K=>Judge.Dv V (λw=>by simp[G,stepG,stepG.exec,fr]) (h T K)
theorem JL.done{ops:Ao_}(h:JL J Q b n L ds k cs s):JL J Q b n L ds (.inRegion ops []::k) cs s:=λT K=>Judge.Dv V (λw=>by simp[G,stepG,stepG.exec,fr]) (h T K)
theorem VY{id:Nat}{ops:Ao_}(K:s.q=false)(hm:P.follows .mixedOrders=true)(h:∀t,JL J Q b n L ds (.inRegion ops (Region.linearise .any ops t)::k) cs s):JL J Q b n L ds (.code (.region id ops true)::k) cs s:=λT O=>by
 refine J.step ⟨rfl,λw f=>⟨_,s,{w with drawn:=w.drawn+1},#[],?_,h (w.tape w.drawn (.order b.fn id)) T O,⟨f.e,f.h,f.d⟩,⟨no _,λ_ _ _=>rfl,λ_ h=>.inl h,λ_ _ h=>h,λ_ h=>.inl h,rfl,rfl,rfl⟩,by simp⟩,λe=>by subst e;cases K⟩
 simp[G,stepG,stepG.exec,fr,choose,Sem.run,Question.forced,Question.cut,Region.schedule,hm]
theorem G6(T:Av_)(ops:Ao_)(i:Nat)(rest:List Nat)(v:Value)(o:Oper)(K:ops[i]?=some o):
  (fr b T ds (.inRegion ops (i::rest)::k)).finish v=fr b (CV T o.dst v) ds (.inRegion ops rest::k):=by
 cases hd:o.dst<;>simp[Frame.finish,fr,K,hd,CV]
theorem stepG_op{main:Bool}{ops:Ao_}{i:Nat}{rest:List Nat}{o:Oper}(K:ops[i]?=some o)(hw:Region.wanted o (yielded ops T)=true):
  stepG P main (G (fr b T ds (.inRegion ops (i::rest)::k)) cs) w=
   match b.roundOf,o.op with
   | some l,.defer c=>stepG.apply P true (fr b T ds (.inRegion ops (i::rest)::k)) cs none (do Instr.deferInRound l (← resolve (BL T) c o.type);pure .skip) w
   | _,_=>stepG.apply P true (fr b T ds (.inRegion ops (i::rest)::k)) cs none (execOp (BL T) o) w:=by
 have he:=Vg (b:=b) (ds:=ds) T (.inRegion ops (i::rest)::k);simp only[fr] at he;simp only[G,stepG,stepG.exec,fr,K,qH,Option.getD_some,hw,qs,stepG.oper,Frame.oper?,he]
 rfl
theorem Gt(T:Av_)(todo:Li_):(fr b T ds todo).fn=b.fn:=rfl
theorem IS(T:Av_)(todo:Li_):(fr b T ds todo).todo=todo:=rfl
def upon(J:Judge P)(Q:Gs_)(b:Frame)(T:Av_)(ds:Ld_)(ops:Ao_)(i:Nat)(rest:List Nat)(k:Li_)(cs:Lf_)(dst:Option Tmp):Next->St->Prop
 | .value v,s=>J.ok Q (G (fr b (CV T dst v) ds (.inRegion ops rest::k)) cs) s
 | .skip,s=>J.ok Q (G (fr b (CV T dst undef) ds (.inRegion ops rest::k)) cs) s
 | .defer d,s=>J.ok Q (G (fr b (CV T dst undef) (d::ds) (.inRegion ops rest::k)) cs) s
 | .enter f args,s=>J.ok Q (G (Frame.enter P f args .normal) (fr b T ds (.inRegion ops (i::rest)::k)::cs)) s
 | .round l f tmps assign body,s=>J.ok Q (G (Frame.round l f tmps assign body .normal) (fr b T ds (.inRegion ops (i::rest)::k)::cs)) s
 | _,_=>False
def MO(J:Judge P)(Q:Gs_)(b:Frame)(T:Av_)(ds:Ld_)(ops:Ao_)(i:Nat)(rest:List Nat)(k:Li_)(cs:Lf_):Halt->St->Prop
 | .panic v,s=>J.ok Q (G ((fr b T ds (.inRegion ops (i::rest)::k)).raise [{v,recovered:=false}]) cs) s
 | _,_=>False
theorem RD{s:St}{fn:FuncId}(h:∀e∈es,Ev s w w' e):∀e∈seen P fn es,Ev s w w' e:=λe he=>h e (mem_seen he)
theorem Judge.oper{ops:Ao_}{i:Nat}{rest:List Nat}{o:Oper}(ai:ops[i]?=some o)(hw:Region.wanted o (yielded ops T)=true)(aw:b.kind≠ .early)
  (hd:b.roundOf=none∨∀c,o.op≠ .defer c)
  (h:lp P (execOp (BL T) o) s (upon J Q b T ds ops i rest k cs o.dst) (MO J Q b T ds ops i rest k cs)):
  J.ok Q (G (fr b T ds (.inRegion ops (i::rest)::k)) cs) s:=by
 have U:((fr b T ds (.inRegion ops (i::rest)::k)).kind==CallKind.early)=false:=by simpa [fr] using aw
 have aq:∀w,stepG P J.main (G (fr b T ds (.inRegion ops (i::rest)::k)) cs) w=stepG.apply P true (fr b T ds (.inRegion ops (i::rest)::k)) cs none (execOp (BL T) o) w:=by
  intro w;rw[stepG_op ai hw];split;rename_i l c av e2;rcases hd with hd | hd;rw[hd] at av;cases av;exact absurd e2 (hd c);rfl
 refine J.step ⟨V,λw f=>?_,λe=>?_⟩
 rotate_left
 .subst e;simp only[aq];have al:=λv=>G6 (b:=b) (ds:=ds) (k:=k) T ops i rest v o ai;let⟨es,he,Y,h⟩:=UI _ h;have ag:seen P b.fn es=#[]:=TA Y;rcases h with⟨am,K,O⟩ | ⟨x,K,O⟩
  .cases am with
   | value v=>exact⟨_,λw=>by simp[stepG.apply,O,U,GStep.after,G,al,Gt,he,ag],K⟩
   | skip=>exact⟨_,λw=>by simp[stepG.apply,O,U,GStep.after,G,al,Gt,he,ag],K⟩
   | enter g args=>exact⟨_,λw=>by simp[stepG.apply,O,U,GStep.after,G,Gt,IS,he,ag],K⟩
   | round l g tm as ay=>exact⟨_,λw=>by simp[stepG.apply,O,U,GStep.after,G,Gt,IS,he,ag],K⟩
   | defer d=>
    have ap:=G6 (b:=b) (ds:=d::ds) (k:=k) T ops i rest undef o ai;exact⟨_,λw=>by rw[← ap];simp[stepG.apply,O,U,GStep.after,G,Gt,IS,he,ag];rfl,K⟩
   | _=>exact K.elim
  .cases x with
   | panic v=>exact⟨_,λw=>by simp[stepG.apply,O,U,GStep.after,G,Gt,IS,he,ag],K⟩
   | _=>exact K.elim
 let⟨s',Z,ac,az,K⟩:=OX _ h f;rw[aq];have Y:=RD (P:=P) (fn:=b.fn) az;have al:=λv=>G6 (b:=b) (ds:=ds) (k:=k) T ops i rest v o ai;cases O:(execOp (BL T) o).run P w with
 | ok am w'=>
  rw[O] at Z ac K Y;simp only[LR] at Z ac Y;cases am with
  | value v=>exact⟨_,s',w',seen P b.fn ((execOp (BL T) o).events P w #[])++ #[],by simp[stepG.apply,O,U,GStep.after,G,al,Gt],K,Z,ac,by simpa using Y⟩
  | skip=>exact⟨_,s',w',seen P b.fn ((execOp (BL T) o).events P w #[])++ #[],by simp[stepG.apply,O,U,GStep.after,G,al,Gt],K,Z,ac,by simpa using Y⟩
  | enter g args=>exact⟨_,s',w',seen P b.fn ((execOp (BL T) o).events P w #[])++ #[],by simp[stepG.apply,O,U,GStep.after,G,Gt,IS],K,Z,ac,by simpa using Y⟩
  | round l g tm as ay=>exact⟨_,s',w',seen P b.fn ((execOp (BL T) o).events P w #[])++ #[],by simp[stepG.apply,O,U,GStep.after,G,Gt,IS],K,Z,ac,by simpa using Y⟩
  | defer d=>
   have ap:=G6 (b:=b) (ds:=d::ds) (k:=k) T ops i rest undef o ai;exact⟨_,s',w',seen P b.fn ((execOp (BL T) o).events P w #[])++ #[],by
    rw[← ap];simp[stepG.apply,O,U,GStep.after,G,Gt,IS];rfl,K,Z,ac,by simpa using Y⟩
  | _=>exact K.elim
 | halt x w'=>
  rw[O] at Z ac K Y;simp only[LR] at Z ac Y;cases x with
  | panic v=>exact⟨_,s',w',seen P b.fn ((execOp (BL T) o).events P w #[])++ #[],by simp[stepG.apply,O,U,GStep.after,G,Gt,IS],K,Z,ac,by simpa using Y⟩
  | _=>exact K.elim
theorem Judge.unwanted{ops:Ao_}{i:Nat}{rest:List Nat}{o:Oper}(K:ops[i]?=some o)(hw:Region.wanted o (yielded ops T)=false)
  (h:J.ok Q (G (fr b (CV T o.dst undef) ds (.inRegion ops rest::k)) cs) s):J.ok Q (G (fr b T ds (.inRegion ops (i::rest)::k)) cs) s:=by
 refine Judge.Dv V (λw=>?_) h;have O:=G6 (b:=b) (ds:=ds) (k:=k) T ops i rest undef o K;rw[← O];simp[G,stepG,stepG.exec,fr,K,hw]
end
def Yl(P:Program)(o:Oper)(ρ:Operand->Value)(s:St)(v:Value):Prop:=lp P (execOp ρ o) s (λK s'=>K=.value v/\s'=s) (λ_ _=>False)
def FA(L:Env)(ρ:Operand->Value):Prop:=∀x v,ev L x=some v->ρ x=v
def AY(L:Env)(ops:Ao_)(o:Oper):Option Bool:=
 match o.guard with
 | none=>some true
 | some (j,K)=>match(ops[j]?).bind (·.dst) with
  | some d=>match look L d with
   | some (.bool b)=>some (b==K)
   | some (.tuple _)=>some false
   | _=>none
  | none=>none
section
variable {b:Frame}{n:Nat}
theorem Has.GR(h:Has n L T):FA L (BL T):=λ_ _ e=>h.ev e
theorem getD_some{d:Nat}{c:Bool}(h:T.getD d undef=.bool c):T[d]?=some (.bool c):=by
 rw[pd] at h;cases K:T[d]? with
 | none=>rw[K] at h;simp[undef] at h
 | some v=>rw[K] at h;simp at h;rw[h]
theorem Ck{ops:Ao_}{o:Oper}{c:Bool}(h:Has n L T)(hw:AY L ops o=some c):Region.wanted o (yielded ops T)=c:=by
 unfold AY at hw;unfold Region.wanted;cases K:o.guard with
 | none=>rw[K] at hw;simpa using hw
 | some p=>
  obtain⟨j,Y⟩:=p;rw[K] at hw;simp only at hw ⊢;cases hd:(ops[j]?).bind (·.dst) with
  | none=>rw[hd] at hw;simp at hw
  | some d=>
   rw[hd] at hw;simp only at hw;cases O:look L d with
   | none=>rw[O] at hw;simp at hw
   | some v=>
    rw[O] at hw;cases v with
    | bool x=>
     simp only[qv] at hw;have:=getD_some (h.at_ d _ O);simp only[yielded,hd,Option.bind_some,this];simp[← hw]
    | tuple c=>
     simp only[qv] at hw;have K:=h.at_ d _ O;simp only[yielded,hd,Option.bind_some];cases U:T[d]? with
     | none=>simp[← hw]
     | some u=>
      have:u=.tuple c:=by rw[pd,U] at K;exact K
      subst this;simp[← hw]
    | _=>simp at hw
def EM:Op->Bool | .defer _=>true | _=>false
def BU(b:Frame)(n:Nat)(o:Oper):Bool:=(b.kind != .early)&&(Bo n o.dst&& !EM o.op)
theorem Yl.out{P:Program}{o:Oper}{ρ:Operand->Value}{s:St}{v:Value}(h:Yl P o ρ s v):Pal.lp P (execOp ρ o) s (λK s'=>K=.value v/\s'=s) (λ_ _=>False):=by unfold Yl at h;exact h
theorem A9{ops:Ao_}{i:Nat}{rest:List Nat}{o:Oper}{v:Value}(U:ops[i]?=some o)(hw:AY L ops o=some true)(K:BU b n o=true)
  (h:∀ρ,FA L ρ->Yl P o ρ s v) (Y:JL J Q b n (Ay L o.dst v) ds (.inRegion ops rest::k) cs s):
  JL J Q b n L ds (.inRegion ops (i::rest)::k) cs s:=λT O=>by
 simp only[BU,gQ] at K
 obtain⟨K,Z,hd⟩:=K
 refine Judge.oper U (Ck O hw) (by simpa using K) (.inr λc ac=>by rw[ac] at hd;simp[EM] at hd) (EI _ (h _ O.GR).out ?_ ?_)
 .rintro ai s' ⟨rfl,rfl⟩
  exact Y _ (O.put Z v)
 .intro _ _ ag;exact ag.elim
theorem I1{ops:Ao_}{i:Nat}{rest:List Nat}{o:Oper}(O:ops[i]?=some o)(hw:AY L ops o=some false)(U:Bo n o.dst=true)
  (Y:JL J Q b n (Ay L o.dst undef) ds (.inRegion ops rest::k) cs s):
  JL J Q b n L ds (.inRegion ops (i::rest)::k) cs s:=λ_ K=>
 Judge.unwanted O (Ck K hw) (Y _ (K.put U undef))
theorem JL.op{ops:Ao_}{i:Nat}{rest:List Nat}{o:Oper}(ac:ops[i]?=some o)(hw:AY L ops o=some true)(K:BU b n o=true)
  (h:∀ρ,FA L ρ->lp P (execOp ρ o) s (λU s'=>match U with
   | .value v=>JL J Q b n (Ay L o.dst v) ds (.inRegion ops rest::k) cs s'
   | .skip=>JL J Q b n (Ay L o.dst undef) ds (.inRegion ops rest::k) cs s'
   | _=>False) (λ_ _=>False)):
  JL J Q b n L ds (.inRegion ops (i::rest)::k) cs s:=λT O=>by
 simp only[BU,gQ] at K
 obtain⟨K,Z,hd⟩:=K
 refine Judge.oper ac (Ck O hw) (by simpa using K) (.inr λc ag=>by rw[ag] at hd;simp[EM] at hd) (EI _ (h _ O.GR) ?_ ?_)
 .intro U s' Y
  cases U with
  | value v=>exact Y _ (O.put Z v)
  | skip=>exact Y _ (O.put Z undef)
  | _=>exact Y.elim
 .intro _ _ ai;exact ai.elim
end
variable {ρ:Operand->Value}{y z:Operand}{d:Option Tmp}{t u ty:TypeId}{p:String}{af:Ae_}{g:On_}{kd kd':IntKind}{m':Int}
variable{ats:Array TypeId}
section
variable {x:Operand}{v:Value}{m:Int}
theorem Yl.move(K:ρ x=v):Yl P ⟨d,.move x,ty,p,af,g⟩ ρ s v:=by simp[Yl,execOp,lp,pure,K]
theorem Yl.assign(K:ρ x=v):Yl P ⟨d,.assign x,ty,p,af,g⟩ ρ s v:=by simp[Yl,execOp,lp,pure,K]
theorem Ns(K:ρ z=.bool true)(O:ρ x=v):Yl P ⟨d,.pick z x y,ty,p,af,g⟩ ρ s v:=by simp[Yl,execOp,lp,pure,bind,Sem.bind,asBool,K,O]
theorem Y9(K:ρ z=.bool false)(O:ρ y=v):Yl P ⟨d,.pick z x y,ty,p,af,g⟩ ρ s v:=by simp[Yl,execOp,lp,pure,bind,Sem.bind,asBool,K,O]
theorem Yl.lss(K:ρ x=.int kd m)(O:ρ y=.int kd m'):Yl P ⟨d,.binOp .lss t x y u,ty,p,af,g⟩ ρ s (.bool (decide (m<m'))):=by
 simp[Yl,execOp,lp,pure,bind,Sem.bind,K,O,eqGuard,Go.binOp,Op.intCmp]
theorem Yl.leq(K:ρ x=.int kd m)(O:ρ y=.int kd m'):Yl P ⟨d,.binOp .leq t x y u,ty,p,af,g⟩ ρ s (.bool (decide (m<=m'))):=by
 simp[Yl,execOp,lp,pure,bind,Sem.bind,K,O,eqGuard,Go.binOp,Op.intCmp]
theorem Yl.gtr(K:ρ x=.int kd m)(O:ρ y=.int kd m'):Yl P ⟨d,.binOp .gtr t x y u,ty,p,af,g⟩ ρ s (.bool (decide (m'<m))):=by
 simp[Yl,execOp,lp,pure,bind,Sem.bind,K,O,eqGuard,Go.binOp,Op.intCmp]
theorem Yl.geq(K:ρ x=.int kd m)(O:ρ y=.int kd m'):Yl P ⟨d,.binOp .geq t x y u,ty,p,af,g⟩ ρ s (.bool (decide (m'<=m))):=by
 simp[Yl,execOp,lp,pure,bind,Sem.bind,K,O,eqGuard,Go.binOp,Op.intCmp]
theorem Yl.eql(K:ρ x=.int kd m)(O:ρ y=.int kd m'):Yl P ⟨d,.binOp .eql t x y u,ty,p,af,g⟩ ρ s (.bool (decide (m=m'))):=by
 simp[Yl,execOp,lp,pure,bind,Sem.bind,K,O,eqGuard,Go.binOp,Op.intCmp];rfl
theorem Yl.neq(K:ρ x=.int kd m)(O:ρ y=.int kd m'):Yl P ⟨d,.binOp .neq t x y u,ty,p,af,g⟩ ρ s (.bool (!decide (m=m'))):=by
 simp[Yl,execOp,lp,pure,bind,Sem.bind,K,O,eqGuard,Go.binOp,Op.intCmp];rfl
theorem Yl.add(K:ρ x=.int kd m)(O:ρ y=.int kd m'):Yl P ⟨d,.binOp .add t x y u,ty,p,af,g⟩ ρ s (.int kd (kd.wrap (m+m'))):=by
 simp[Yl,execOp,lp,pure,bind,Sem.bind,K,O,eqGuard,Go.binOp,Op.intArith]
theorem Yl.sub(K:ρ x=.int kd m)(O:ρ y=.int kd m'):Yl P ⟨d,.binOp .sub t x y u,ty,p,af,g⟩ ρ s (.int kd (kd.wrap (m - m'))):=by
 simp[Yl,execOp,lp,pure,bind,Sem.bind,K,O,eqGuard,Go.binOp,Op.intArith]
theorem Yl.mul(K:ρ x=.int kd m)(O:ρ y=.int kd m'):Yl P ⟨d,.binOp .mul t x y u,ty,p,af,g⟩ ρ s (.int kd (kd.wrap (m*m'))):=by
 simp[Yl,execOp,lp,pure,bind,Sem.bind,K,O,eqGuard,Go.binOp,Op.intArith]
theorem KH{a:Int}(h: -9223372036854775808<=a/\a<=9223372036854775807):IntKind.i64.wrap a=a:=by
 simp only[IntKind.wrap,IntKind.bits,IntKind.signed];simp;split<;>omega
theorem dz(K:ρ x=.int .i64 m)(O:ρ y=.int .i64 m')(hb: -9223372036854775808<=m+m'/\m+m'<=9223372036854775807):Yl P ⟨d,.binOp .add t x y u,ty,p,af,g⟩ ρ s (.int .i64 (m+m')):=by
 have:=Yl.add (P:=P) (s:=s) (d:=d) (t:=t) (u:=u) (ty:=ty) (p:=p) (af:=af) (g:=g) K O;rwa[KH hb] at this
theorem dg(K:ρ x=.int .i64 m)(O:ρ y=.int .i64 m')(hb: -9223372036854775808<=m - m'/\m - m'<=9223372036854775807):Yl P ⟨d,.binOp .sub t x y u,ty,p,af,g⟩ ρ s (.int .i64 (m - m')):=by
 have:=Yl.sub (P:=P) (s:=s) (d:=d) (t:=t) (u:=u) (ty:=ty) (p:=p) (af:=af) (g:=g) K O;rwa[KH hb] at this
theorem dc(K:ρ x=.int .i64 m)(O:ρ y=.int .i64 m')(hb: -9223372036854775808<=m*m'/\m*m'<=9223372036854775807):Yl P ⟨d,.binOp .mul t x y u,ty,p,af,g⟩ ρ s (.int .i64 (m*m')):=by
 have:=Yl.mul (P:=P) (s:=s) (d:=d) (t:=t) (u:=u) (ty:=ty) (p:=p) (af:=af) (g:=g) K O;rwa[KH hb] at this
theorem Yl.rem(K:ρ x=.int kd m)(O:ρ y=.int kd m')(U:m'≠0):Yl P ⟨d,.binOp .rem t x y u,ty,p,af,g⟩ ρ s (.int kd (m.tmod m')):=by
 simp[Yl,execOp,lp,pure,bind,Sem.bind,K,O,eqGuard,Go.binOp,Op.intDiv,U]
theorem Yl.quo(K:ρ x=.int kd m)(O:ρ y=.int kd m')(U:m'≠0):Yl P ⟨d,.binOp .quo t x y u,ty,p,af,g⟩ ρ s (.int kd (kd.wrap (m.tdiv m'))):=by
 simp[Yl,execOp,lp,pure,bind,Sem.bind,K,O,eqGuard,Go.binOp,Op.intDiv,U]
theorem Yl.and(K:ρ x=.int kd m)(O:ρ y=.int kd m'):Yl P ⟨d,.binOp .and t x y u,ty,p,af,g⟩ ρ s (.int kd (kd.wrap (BitVec.ofInt kd.bits m&&& BitVec.ofInt kd.bits m').toNat)):=by
 simp[Yl,execOp,lp,pure,bind,Sem.bind,K,O,eqGuard,Go.binOp,Op.intBits]
theorem Yl.or(K:ρ x=.int kd m)(O:ρ y=.int kd m'):Yl P ⟨d,.binOp .or t x y u,ty,p,af,g⟩ ρ s (.int kd (kd.wrap (BitVec.ofInt kd.bits m|||BitVec.ofInt kd.bits m').toNat)):=by
 simp[Yl,execOp,lp,pure,bind,Sem.bind,K,O,eqGuard,Go.binOp,Op.intBits]
theorem Yl.xor(K:ρ x=.int kd m)(O:ρ y=.int kd m'):Yl P ⟨d,.binOp .xor t x y u,ty,p,af,g⟩ ρ s (.int kd (kd.wrap (BitVec.ofInt kd.bits m ^^^ BitVec.ofInt kd.bits m').toNat)):=by
 simp[Yl,execOp,lp,pure,bind,Sem.bind,K,O,eqGuard,Go.binOp,Op.intBits]
theorem Yl.shl(K:ρ x=.int kd m)(O:ρ y=.int kd' m')(U:0<=m'):Yl P ⟨d,.binOp .shl t x y u,ty,p,af,g⟩ ρ s (.int kd (kd.wrap (m*2^(min m'.toNat kd.bits)))):=by
 have:¬m'<0:=by omega
 simp[Yl,execOp,lp,pure,bind,Sem.bind,K,O,eqGuard,Go.binOp,Op.shift,this]
theorem Yl.shr(K:ρ x=.int kd m)(O:ρ y=.int kd' m')(U:0<=m'):Yl P ⟨d,.binOp .shr t x y u,ty,p,af,g⟩ ρ s (.int kd (m.fdiv (2^(min m'.toNat kd.bits)))):=by
 have:¬m'<0:=by omega
 simp[Yl,execOp,lp,pure,bind,Sem.bind,K,O,eqGuard,Go.binOp,Op.shift,this]
theorem Yl.not{c:Bool}(K:ρ x=.bool c):Yl P ⟨d,.unOp .not t x,ty,p,af,g⟩ ρ s (.bool (!c)):=by
 simp[Yl,execOp,lp,pure,bind,Sem.bind,K,Op.unary]
theorem du(K:ρ x=.int .i64 m)(hb: -9223372036854775808<= -m/\ -m<=9223372036854775807):Yl P ⟨d,.unOp .neg t x,ty,p,af,g⟩ ρ s (.int .i64 (-m)):=by
 simp[Yl,execOp,lp,pure,bind,Sem.bind,K,Op.unary,Op.intArith,KH hb]
theorem FI(K:P.underlying t=some (.int kd'))(hu:P.underlying u=some (.int kd))(O:ρ x=.int kd' m):Yl P ⟨d,.convert t u x,ty,p,af,g⟩ ρ s (.int kd (kd.wrap m)):=by
 simp[Yl,execOp,lp,pure,bind,Sem.bind,O,Go.convert,underlying,program,K,hu,Conv.intToInt]
theorem Yl.extract{vs:Av_}{i:Nat}(K:ρ x=.tuple vs)(hi:vs[i]?=some v):Yl P ⟨d,.extract x i,ty,p,af,g⟩ ρ s v:=by
 simp[Yl,execOp,lp,pure,bind,Sem.bind,K,Instr.extract,hi]
theorem Yl.nilCheck{a:Addr}(K:ρ x=.pointer (some a)):Yl P ⟨d,.nilCheck x,ty,p,af,g⟩ ρ s (.pointer (some a)):=by
 simp[Yl,execOp,lp,pure,K]
theorem Yl.len{a:Option Addr}{e:TypeId}{c:Nat}(K:ats[0]?=some t)(O:P.underlying t=some (.slice e))(U:ρ x=.slice a l c):
  Yl P ⟨d,.call ⟨.builtin .len,#[x],ats⟩,ty,p,af,g⟩ ρ s (.int .i64 l):=by
 simp[Yl,execOp,lp,pure,bind,Sem.bind,U,resolve,invoke,builtin,Builtin.len_,K,underlying,program,O,goInt]
theorem Q1{dsc:TypeDesc}(K:P.underlying t=some dsc)(O:∀ms,dsc≠ .interface ms)(U:ρ x=v):Yl P ⟨d,.makeInterface t x,ty,p,af,g⟩ ρ s (.iface t v):=by
 have:lp P (Instr.makeInterface t v) s (λr s'=>r=.iface t v/\s'=s) (λ_ _=>False):=by
  unfold Instr.makeInterface;simp only[lp,bind,Sem.bind,underlying,program,K];cases dsc<;>first | exact⟨rfl,rfl⟩ | exact absurd rfl (O _)
 simp only[Yl,execOp,U];exact Az _ _ (EI _ this (λr s' ⟨Y,Z⟩=>⟨by rw[Y],Z⟩) (λ_ _ h=>h))
theorem Mr{fn:Fn}{a c:Array Operand}{va K:Av_}(O:a.map ρ=va)(U:c.map ρ=K):Yl P ⟨d,.makeFunc fn a c,ty,p,af,g⟩ ρ s (.func fn va K):=by
 simp[Yl,execOp,lp,pure,bind,Sem.bind,Instr.makeFunc,O,U]
end
attribute [irreducible] Yl
def Le(E E':LH):Prop:=∀b o,E b=some o->E' b=some o
theorem Le.refl(E:LH):Le E E:=λ_ _ h=>h
theorem Le.trans{E E' E0:LH}(h:Le E E')(k:Le E' E0):Le E E0:=λb o x=>k b o (h b o x)
theorem AQ{E:LH}:Le E E:=Le.refl E
theorem Le.Ad{a b c:LH}(h:Le a b)(k:Le b c):Le a c:=h.trans k
def Bn:List (Nat×Obj)->LH->LH
 | [],H=>H
 | (b,o)::B,H=>λx=>if x=b then some o else Bn B H x
def mk(E H:LH)(B:List (Nat×Obj)):St:=⟨E,Bn B H,false⟩
def Nd(E H:LH):List (Nat×Obj)->Prop
 | []=>True
 | (b,_)::B=>E b=none/\H b=none/\(∀p∈B,p.1≠b)/\Nd E H B
theorem T7{H:LH}{b:Nat}:∀{B:List (Nat×Obj)},H b=none->(∀p∈B,p.1≠b)->Bn B H b=none
 | [],h,_=>h
 | (c,o)::B,h,hb=>by
  have K:b≠c:=λe=>hb (c,o) (by simp) e.symm
  simp only[Bn,d9 K]
  exact T7 h λp O=>hb p (f7 _ O)
theorem IE{H:LH}{b:Nat}:∀{B:List (Nat×Obj)},Bn B H b=none->H b=none/\∀p∈B,p.1≠b
 | [],h=>⟨h,by simp⟩
 | (c,o)::B,h=>by
  simp only[Bn] at h
  split at h;cases h;rename_i O;let⟨U,Y⟩:=IE h;refine⟨U,λp K=>?_⟩;rcases iO.1 K with rfl | K;exact λe=>O e.symm;exact Y p K
theorem TC{H:LH}{x:Nat}{o:Obj}{r:Nat}:∀{B:List (Nat×Obj)},(∀p∈B,p.1≠r)->Bn (B++ [(r,o)]) H x=if x=r then some o else Bn B H x
 | [],_=>rfl
 | (c,u)::B,h=>by
  simp only[qQ,Bn]
  by_cases e:x=c
  .subst e
   have:x≠r:=λe=>h (x,u) (by simp) e;simp[this]
  .simp only [d9 e];exact TC λp K=>h p (f7 _ K)
theorem Nd.append{E H:LH}{r:Nat}{o:Obj}(O:E r=none)(U:H r=none):∀{B:List (Nat×Obj)},(∀p∈B,p.1≠r)->Nd E H B->Nd E H (B++ [(r,o)])
 | [],_,_=>⟨O,U,by simp,trivial⟩
 | (c,u)::B,h,Y=>by
  obtain⟨Z,ac,ag,ai⟩:=Y
  refine⟨Z,ac,λp K=>?_,Nd.append O U (λp K=>h p (f7 _ K)) ai⟩
  rcases pg.1 K with K | K;exact ag p K;simp at K;subst K;exact λe=>h (c,u) (by simp) e.symm
theorem Ka{E H:LH}{b:Nat}{o:Obj}:∀{B:List (Nat×Obj)}{i:Nat},Nd E H B->B[i]?=some (b,o)->Bn B H b=some o
 | [],_,_,h=>by simp at h
 | (c,u)::B,0,_,h=>by simp at h;obtain⟨rfl,rfl⟩:=h;simp[Bn]
 | (c,u)::B,i+1,K,h=>by
  simp at h
  have O:b≠c:=K.2.2.1 (b,o) (pC h)
  simp only[Bn,d9 O]
  exact Ka K.2.2.2 h
theorem Ut{E H:LH}{b:Nat}{o o':Obj}:∀{B:List (Nat×Obj)}{i:Nat},Nd E H B->B[i]?=some (b,o)->Bn (B.set i (b,o')) H=λx=>if x=b then some o' else Bn B H x
 | [],_,_,h=>by simp at h
 | (c,u)::B,0,_,h=>by
  simp at h;obtain⟨rfl,rfl⟩:=h
  funext x
  simp only[rj,Bn]
  split<;>rfl
 | (c,u)::B,i+1,K,h=>by
  simp at h
  have O:b≠c:=K.2.2.1 (b,o) (pC h)
  funext x
  simp only[sk,Bn]
  rw[Ut K.2.2.2 h]
  by_cases e:x=c;subst e;simp[p6 O];simp[e]
variable{o':Obj}
theorem Nd.set{E H:LH}{b:Nat}:∀{B:List (Nat×Obj)}{i:Nat},Nd E H B->B[i]?=some (b,o)->Nd E H (B.set i (b,o'))
 | [],_,_,h=>by simp at h
 | (c,u)::B,0,K,h=>by simp at h;obtain⟨rfl,rfl⟩:=h;exact K
 | (c,u)::B,i+1,K,h=>by
  simp at h
  refine⟨K.1,K.2.1,λp O=>?_,K.2.2.2.set h⟩
  have hm:=rx O
  rcases hm with hm | rfl;exact K.2.2.1 p hm;exact K.2.2.1 (b,o) (pC h)
theorem Nd.Wd{E H:LH}{b:Nat}{o:Obj}:∀{B:List (Nat×Obj)}{i:Nat},Nd E H B->B[i]?=some (b,o)->E b=none
 | [],_,_,h=>by simp at h
 | (c,u)::B,0,K,h=>by simp at h;obtain⟨rfl,rfl⟩:=h;exact K.1
 | (c,u)::B,i+1,K,h=>by simp at h;exact Nd.Wd K.2.2.2 h
theorem Q3{E H:LH}{B:List (Nat×Obj)}{i b:Nat}(K:Nd E H B)(h:B[i]?=some (b,o)):(mk E H B).get b=some o:=by
 unfold St.get mk;simp only[K.Wd h,Ka K h]
theorem X5{E H:LH}{B:List (Nat×Obj)}{b:Nat}(h:E b=some o):(mk E H B).get b=some o:=by
 unfold St.get mk;simp only[h]
variable{off:Nat}
theorem UD{E H:LH}{B:List (Nat×Obj)}{i b:Nat}{c:Av_}{e:TypeId}{f:Nat×Nat}{v:Value}(K:Nd E H B)(h:B[i]?=some (b,.cells c e f))(O:c[off]?=some v):(mk E H B).cell? ⟨b,off,none⟩=some v:=by
 unfold St.cell?;rw[Q3 K h];exact O
theorem ZR{E H:LH}{B:List (Nat×Obj)}{b:Nat}{c:Av_}{e:TypeId}{f:Nat×Nat}{v:Value}(h:E b=some (.cells c e f))(K:c[off]?=some v):(mk E H B).cell? ⟨b,off,none⟩=some v:=by
 unfold St.cell?;rw[X5 h];exact K
variable {E H:LH}{B B':List (Nat×Obj)}
variable{bk r:Nat}{args:Av_}{X:Halt->St->Prop}{todo:Li_}{fn:Func}{vs:Lv_}
section
variable {b:Frame}{n:Nat}
theorem Lp(O:(mk E H B).E r=none)(U:(mk E H B).H r=none)(o:Obj)(Y:Nd E H B):Nd E H (B++ [(r,o)])/\(mk E H B).upd r o=mk E H (B++ [(r,o)]):=by
 let⟨Z,K⟩:=IE U;refine⟨Nd.append O Z K Y,?_⟩;unfold St.upd mk;congr 1;funext x;exact(TC K).symm
theorem eH{i:Nat}(K:Nd E H B)(h:B[i]?=some (bk,o)):(mk E H B).upd bk o'=mk E H (B.set i (bk,o')):=by
 unfold St.upd mk;congr 1;exact(Ut K h).symm
theorem JL.drop(B':List (Nat×Obj))(h:∀p∈B',∃i:Nat,B[i]?=some p)(U:Nd E H B)(k':JL J Q b n L ds k cs (mk E H B')):JL J Q b n L ds k cs (mk E H B):=
 JL.ghost (s':=mk E H B') ⟨λ_ _ h=>h,λx o O=>by
  show Bn B H x=some o
  have key:∀{B':List (Nat×Obj)},(∀p∈B',∃i:Nat,B[i]?=some p)->Bn B' H x=some o->Bn B H x=some o:=by
   intro B'
   induction B' with
   | nil=>
    intro _ O
    have ai:∀p∈B,p.1≠x:=by
     intro p K e
     have:∀{B:List (Nat×Obj)},Nd E H B->p∈B->H p.1=none:=by
      intro B U K
      induction B with
      | nil=>simp at K
      | cons q B Y=>
       rcases iO.1 K with rfl | K;exact U.2.1;exact Y U.2.2.2 K
     have ac:=this U K
     rw[e] at ac
     have ag:H x=some o:=O
     rw[ac] at ag;cases ag
    have:∀{B:List (Nat×Obj)},(∀p∈B,p.1≠x)->Bn B H x=H x:=by
     intro B Z
     induction B with
     | nil=>rfl
     | cons q B Y=>
      have al:x≠q.1:=λe=>Z q (by simp) e.symm
      obtain⟨c,u⟩:=q
      simp only[Bn,d9 al]
      exact Y λp K=>Z p (f7 _ K)
    rw[this ai];exact O
   | cons q B' Y=>
    intro Z O
    obtain⟨c,u⟩:=q
    simp only[Bn] at O
    split at O
    .rename_i e;subst e;cases O
     obtain⟨i,hi⟩:=Z (x,o) (by simp)
     exact Ka U hi
    .exact Y (λp K=>Z p (f7 _ K)) O
  exact key h O,λ_ _ h=>.inl h,V⟩ k'
theorem No{x:Nat}:∀{B:List (Nat×Obj)}{i bk:Nat}{o u:Obj},Nd E H B->B[i]?=some (bk,o)->Bn (B.eraseIdx i) H x=some u->x≠bk/\Bn B H x=some u
 | [],_,_,_,_,_,h,_=>by simp at h
 | (c,v)::B,0,bk,o,u,O,h,K=>by
  simp at h;obtain⟨rfl,rfl⟩:=h
  simp only[tp] at K
  have U:x≠c:=by
   intro e;subst e;rw[T7 O.2.1 O.2.2.1] at K;cases K
  exact⟨U,by simp only[Bn,d9 U];exact K⟩
 | (c,v)::B,i+1,bk,o,u,O,h,K=>by
  simp at h;simp only[List.eraseIdx_cons_succ,Bn] at K ⊢;split at K;rename_i e;subst e;rw[eS rfl];exact⟨λe=>O.2.2.1 (bk,o) (pC h) e.symm,K⟩;rename_i e;rw[d9 e];exact No O.2.2.2 h K
theorem JL.freeze(i:Nat)(K:Nd E H B)(h:B[i]?=some (bk,o))
  (k':∀E',Le E E'->E' bk=some o->Nd E' H (B.eraseIdx i)->JL J Q b n L ds k cs (mk E' H (B.eraseIdx i))):JL J Q b n L ds k cs (mk E H B):=by
 have am:=pC h;have ap:E bk=none/\H bk=none:=by
  have:∀{B:List (Nat×Obj)},Nd E H B->(bk,o)∈B->E bk=none/\H bk=none:=by
   intro B K O
   induction B with
   | nil=>simp at O
   | cons q B Y=>
    rcases iO.1 O with rfl | O;exact⟨K.1,K.2.1⟩;exact Y K.2.2.2 O
  exact this K am
 let E':LH:=λx=>if x=bk then some o else E x
 have ag:E' bk=some o:=by simp[E']
 have hle:Le E E':=λx u U=>by
  have:x≠bk:=λe=>by subst e;rw[ap.1] at U;cases U
  simp[E',this,U]
 have aq:Nd E' H (B.eraseIdx i):=by
  have:∀{B:List (Nat×Obj)}{i:Nat},Nd E H B->B[i]?=some (bk,o)->Nd E' H (B.eraseIdx i)/\∀p∈B.eraseIdx i,p.1≠bk:=by
   intro B
   induction B with
   | nil=>intro i _ h;simp at h
   | cons q B Y=>
    obtain⟨c,v⟩:=q;intro i K h;have up:∀{B:List (Nat×Obj)},Nd E H B->(∀p∈B,p.1≠bk)->Nd E' H B:=by
     intro B K ai
     induction B with
     | nil=>trivial
     | cons q B av=>exact⟨by simpa [E',ai q (by simp)] using K.1,K.2.1,K.2.2.1,av K.2.2.2 λp O=>ai p (f7 _ O)⟩
    cases i with
    | zero=>
     simp at h;obtain⟨rfl,rfl⟩:=h;exact⟨up K.2.2.2 K.2.2.1,K.2.2.1⟩
    | succ i=>
     simp at h;let⟨Z,ac⟩:=Y K.2.2.2 h;have al:c≠bk:=λe=>K.2.2.1 (bk,o) (pC h) e.symm;refine⟨⟨by simpa [E',al] using K.1,K.2.1,λp O=>K.2.2.1 p (q9 O),Z⟩,λp O=>?_⟩;rcases iO.1 O with rfl | O;exact al;exact ac p O
  exact(this K h).1
 refine JL.ghost (s':=mk E' H (B.eraseIdx i)) ⟨λx u U=>hle x u U,λx u U=>(No K h U).2,λx u U=>?_,V⟩ (k' E' hle ag aq);by_cases e:x=bk
 .subst e;right;have:u=o:=by have:E' x=some u:=U;rw[ag] at this;exact(f5 this).symm
  subst this;refine⟨Ka K h,?_⟩;cases aw:(mk E' H (B.eraseIdx i)).H x with
  | none=>rfl
  | some y=>exact absurd rfl (No K h aw).1
 .left;have Z:E' x=some u:=U;have ac:E' x=E x:=by simp[E',e]
  show E x=some u;rw[← ac];exact Z
def Fn(P:Program)(f:FuncId)(args:Av_)(s:St)(R:Value->St->Prop):Prop:=
 ∀(J:Judge P) (Q:Gs_) (c:Frame) (cs:Lf_),(∀v s',R v s'->J.ok Q (G (c.finish v) cs) s')->J.ok Q (G (Frame.enter P f args .normal) (c::cs)) s
def Ef(P:Program)(f:FuncId):Bool:=match P.funcs[f]? with | some fn=> !(fn.name== "runtime.NumGoroutine")&&fn.body.isSome | none=>false
def evs(L:Env):List Operand->Option (Lv_)
 | []=>some []
 | x::xs=>match ev L x,evs L xs with | some v,some vs=>some (v::vs) | _,_=>none
theorem G7{L:Env}{ρ:Operand->Value}(h:FA L ρ):∀{xs:List Operand}{vs:Lv_},evs L xs=some vs->xs.map ρ=vs
 | [],vs,e=>by simp[evs] at e;subst e;rfl
 | x::xs,vs,e=>by
  simp only[evs] at e
  split at e
  .rename_i v ws K O
   cases e;rw[pW,h x v K,G7 h O]
  .cases e
theorem J4{f:FuncId}{s:St}{Q:Next->St->Prop}(K:Ef P f=true)(h:Q (.enter f args) s):lp P (callFunc f args) s Q X:=by
 unfold Ef at K;unfold callFunc;simp only[bind,Sem.bind,program,lp];cases O:P.funcs[f]? with
 | none=>rw[O] at K;cases K
 | some fn=>
  rw[O] at K;simp only[gQ,ru] at K;have hb:fn.body.isNone=false:=by cases U:fn.body<;>simp_all
  simp only[K.1,hb,px,qp];exact h
def BO(P:Program)(f:FuncId)(L:Env)(n:Nat)(s:St)(v:Value):Prop:=∃fn,P.funcs[f]?=some fn/\∀T,Has n L T->lp P (results fn T) s (λu s'=>u=v/\s'=s) (λ_ _=>False)
theorem Judge.leave{c:Frame}{s:St}{v:Value}(Y:b.kind=.normal)(Z:P.funcs[b.fn]?=some fn)(U:lp P (results fn T) s (λu s'=>u=v/\s'=s) (λ_ _=>False))
  (h:J.ok Q (G (c.finish v) cs) s):J.ok Q (G (EJ b T [] todo) (c::cs)) s:=by
 refine J.step ⟨V,λw f=>?_,λe=>?_⟩
 rotate_left
 .subst e;let⟨es,he,al,U⟩:=UI _ U;have am:seen P b.fn es=#[]:=TA al;rcases U with⟨u,⟨rfl,_⟩,O⟩ | ⟨x,K,_⟩;exact⟨_,λw=>by simp[G,stepG,unwind,EJ,Z,O,doReturn,Y,GStep.after,he,am],h⟩;exact K.elim
 let⟨s',ac,ag,ai,K⟩:=OX _ U f;cases O:(results fn T).run P w with
 | halt x w'=>rw[O] at K;exact K.elim
 | ok u w'=>
  rw[O] at ac ag ai K;obtain⟨rfl,rfl⟩:=K;exact⟨_,s',w',seen P b.fn ((results fn T).events P w #[])++ #[],by simp[G,stepG,unwind,EJ,Z,O,doReturn,Y,GStep.after],h,ac,ag,by simp only[sn];exact RD ai⟩
theorem JL.ret{s:St}{c:Frame}{v:Value}(O:b.kind=.normal)(U:b.roundOf=none)(K:BO P b.fn L n s v)(h:J.ok Q (G (c.finish v) cs) s):JL J Q b n L [] (.code .ret::k) (c::cs) s:=λT Y=>by
 obtain⟨fn,Z,K⟩:=K
 refine Judge.Dv (g':=G (EJ b T [] (.code .ret::k)) (c::cs)) rfl (λw=>by simp[G,stepG,stepG.exec,fr,EJ,U]) ?_
 exact Judge.leave O Z (K T Y) h
theorem JL.fin{s:St}{c:Frame}{v:Value}(O:b.kind=.normal)(U:b.roundOf=none)(K:BO P b.fn L n s v)(h:J.ok Q (G (c.finish v) cs) s):JL J Q b n L [] [] (c::cs) s:=λT Y=>by
 obtain⟨fn,Z,K⟩:=K
 refine Judge.Dv (g':=G (EJ b T [] []) (c::cs)) rfl (λw=>by simp[G,stepG,stepG.exec,fr,EJ,U]) ?_
 exact Judge.leave O Z (K T Y) h
theorem BO.one{f:FuncId}{s:St}{t:Tmp}{v:Value}(K:P.funcs[f]?=some fn)(O:fn.results=#[.tmp t])(h:look L t=some v):BO P f L n s v:=
 ⟨fn,K,λT U=>by
  have e:results fn T=Sem.pure v:=by
   have:=U.at_ t v h
   simp only[results,O,q7]
   show Sem.pure (T.getD t undef)=_
   rw[this]
  rw[e];exact⟨rfl,rfl⟩⟩
theorem BO.none{f:FuncId}{s:St}(K:P.funcs[f]?=some fn)(O:fn.results=#[]):BO P f L n s (.tuple #[]):=
 ⟨fn,K,λT U=>by
  have e:results fn T=Sem.pure (.tuple #[]):=by
   simp only[results,O,q7]
   rfl
  rw[e];exact⟨rfl,rfl⟩⟩
def GQ:Nat->Lv_->Env
 | _,[]=>[]
 | i,v::vs=>(i,v)::GQ (i+1) vs
theorem KF{i t:Nat}{v:Value}(h:look (GQ i vs) t=some v):i<=t/\vs[t - i]?=some v:=by
 induction vs generalizing i with
 | nil=>simp[GQ,look] at h
 | cons u vs K=>
  simp only[GQ,look] at h;split at h;rename_i e;subst e;cases h;simp
  .rename_i U;let⟨Y,O⟩:=K h;refine⟨by omega,?_⟩;have:t - i=(t - (i+1))+1:=by omega
   rw[this];simpa using O
end
def Bp(P:Program)(t:TypeId):Option Nat:=(P.info? t).map (·.size)
def DJ(P:Program)(t:TypeId):Option Bool:=match P.underlying t with | some (.struct _)=>some true | some (.array _ _)=>some true | some _=>some false | none=>none
def zeroOf(P:Program)(t:TypeId):Option Value:=(P.info? t).bind (·.zero)
variable{sz:Nat}
theorem Fp{Q:Nat->St->Prop}(h:Bp P t=some sz)(k:Q sz s):lp P (Go.sizeOf t) s Q X:=by
 unfold Bp at h;simp only[Go.sizeOf,typeInfo,bind,Sem.bind,program,lp];cases hi:P.info? t with
 | none=>rw[hi] at h;cases h
 | some i=>rw[hi] at h;simp at h;subst h;exact k
theorem H8{z:Value}{Q:Value->St->Prop}(h:zeroOf P t=some z)(k:Q z s):lp P (zeroValue t) s Q X:=by
 unfold zeroOf at h;simp only[zeroValue,typeInfo,bind,Sem.bind,program,lp];cases hi:P.info? t with
 | none=>rw[hi] at h;cases h
 | some i=>
  rw[hi] at h;simp at h;show lp P (match i.zero with | some v=>pure v | none=>unsupported _) s Q X
  rw[h];exact k
theorem OY{c:Bool}{Q:Bool->St->Prop}(h:DJ P t=some c)(k:Q c s):lp P (isAgg t) s Q X:=by
 unfold DJ at h;simp only[isAgg,underlying,bind,Sem.bind,program,lp];cases hu:P.underlying t with
 | none=>rw[hu] at h;cases h
 | some u=>
  rw[hu] at h;cases u<;>simp at h<;>subst h<;>exact k
theorem CG{u:TypeDesc}{Q:TypeDesc->St->Prop}(h:P.underlying t=some u)(k:Q u s):lp P (underlying t) s Q X:=by
 simp only[underlying,bind,Sem.bind,program,lp,h];exact k
theorem VI{a:Addr}{v:Value}{Q:Value->St->Prop}(h:s.cell? a=some v)(k:Q v s):lp P (load a) s Q X:=⟨V,v,h,k⟩
theorem Tp{a:Addr}{Q:Av_->St->Prop}{X:Halt->St->Prop}:∀(vs:Lv_) (i:Nat) (acc:Av_),(∀j v,vs[j]?=some v->s.cell? (a.add (i+j))=some v)->Q (acc++vs.toArray) s->lp P (loadCellsFrom a i vs.length acc) s Q X
 | [],i,acc,_,k=>by simpa [loadCellsFrom,lp,pure] using k
 | v::vs,i,acc,h,k=>by
  simp only[pM,loadCellsFrom]
  refine Az _ _ (VI (h 0 v V) ?_)
  refine Tp vs (i+1) (acc.push v) (λj u K=>?_) (by simpa using k)
  have:=h (j+1) u (by simpa using K)
  rwa[show i+1+j=i+(j+1) from by omega]
theorem Tw{a:Addr}{m:Nat}{Q:Av_->St->Prop}(hm:m=vs.length)(h:∀j v,vs[j]?=some v->s.cell? (a.add j)=some v)(k:Q vs.toArray s):lp P (loadCells a m) s Q X:=by
 subst hm;exact Tp vs 0 #[] (λj v K=>by simpa using h j v K) (by simpa using k)
theorem TK{a:Addr}{v:Value}{Q:Value->St->Prop}(K:DJ P t=some false)(h:s.cell? a=some v)(k:Q v s):lp P (loadVar t a) s Q X:=by
 unfold loadVar;refine Az _ _ (OY K ?_);exact VI h k
theorem TN{a:Addr}{Q:Value->St->Prop}(K:DJ P t=some true)(O:Bp P t=some vs.length)(h:∀j v,vs[j]?=some v->s.cell? (a.add j)=some v)(k:Q (.agg vs.toArray) s):lp P (loadVar t a) s Q X:=by
 unfold loadVar;refine Az _ _ (OY K ?_);show lp P (do let r ← loadCells a (← Go.sizeOf t);pure (Value.agg r)) s Q X
 refine Az (x:=Go.sizeOf t) _ (Fp O ?_);refine Az _ _ (Tw V h ?_);exact k
variable {e:TypeId}
section
variable {x:Operand}{v:Value}{m:Int}
theorem Gp{o:Oper}{sm:Sem Value}(K:execOp ρ o=(do pure (Next.value (← sm))))(h:lp P sm s (λr s'=>r=v/\s'=s) (λ_ _=>False)):Yl P o ρ s v:=by
 unfold Yl;rw[K];exact Az _ _ (EI _ h (λr s' ⟨O,U⟩=>⟨by rw[O],U⟩) (λ_ _ h=>h))
theorem Yl.load{a:Addr}(K:DJ P t=some false)(O:ρ x=.pointer (some a))(h:s.cell? a=some v):Yl P ⟨d,.load t x,ty,p,af,g⟩ ρ s v:=
 Gp (sm:=Instr.loadAt t (ρ x)) V (by rw[O];exact TK K h ⟨rfl,rfl⟩)
theorem Ia{a:Addr}(K:DJ P t=some true)(O:Bp P t=some vs.length)(U:ρ x=.pointer (some a))(h:∀j v,vs[j]?=some v->s.cell? (a.add j)=some v):Yl P ⟨d,.load t x,ty,p,af,g⟩ ρ s (.agg vs.toArray):=
 Gp (sm:=Instr.loadAt t (ρ x)) V (by rw[U];exact TN K O h ⟨rfl,rfl⟩)
theorem Yl.fieldAddr{a:Addr}{O:Array Field}{i:Nat}{K:Field}(U:P.underlying t=some (.struct O))(hi:O[i]?=some K)(Y:Bp P K.type=some (sz+1))(Z:ρ x=.pointer (some a)):
  Yl P ⟨d,.fieldAddr t x i,ty,p,af,g⟩ ρ s (.pointer (some (a.add K.offset))):=
 Gp (sm:=Instr.fieldAt t (ρ x) i) V (by
  rw[Z];unfold Instr.fieldAt
  refine Az _ _ (CG U ?_)
  simp only[hi,Instr.sureAddr,bind,Sem.bind,pure]
  refine Az (x:=fieldPlace a K) _ ?_
  unfold fieldPlace
  refine Az _ _ (Fp Y ?_)
  simp only[Nat.add_eq_zero_iff,Nat.succ_ne_self,and_false,qp,lp,pure]
  exact⟨trivial,trivial⟩)
theorem OR{a:Addr}{c:Nat}(K:P.underlying t=some (.slice e))(O:Bp P e=some sz)(U:ρ x=.slice (some a) l c)(Y:ρ y=.int kd m)(h:0<=m/\m<l):
  Yl P ⟨d,.indexAddr t x y,ty,p,af,g⟩ ρ s (.pointer (some (a.add (m.toNat*sz)))):=
 Gp (sm:=Instr.indexAt t (ρ x) (ρ y)) V (by
  rw[U,Y];unfold Instr.indexAt
  simp only[asIntOf,bind,Sem.bind,pure]
  refine Az (x:=underlying t) _ (CG K ?_)
  simp only[Sem.bind]
  refine Az (x:=underlying t) _ (CG K ?_)
  simp only[Sem.bind,h,and_self,qs]
  refine Az (x:=Go.sizeOf e) _ (Fp O ?_)
  exact⟨rfl,rfl⟩)
theorem Ue{a:Addr}(K:P.underlying t=some (.array l e))(O:Bp P e=some sz)(U:ρ x=.pointer (some a))(Y:ρ y=.int kd m)(h:0<=m/\m<l):
  Yl P ⟨d,.indexAddr t x y,ty,p,af,g⟩ ρ s (.pointer (some (a.add (m.toNat*sz)))):=
 Gp (sm:=Instr.indexAt t (ρ x) (ρ y)) V (by
  rw[U,Y];unfold Instr.indexAt
  simp only[asIntOf,bind,Sem.bind,pure]
  refine Az (x:=underlying t) _ (CG K ?_)
  simp only[Sem.bind,Instr.sureAddr,pure]
  refine Az (x:=underlying t) _ (CG K ?_)
  simp only[Sem.bind,h,and_self,qs]
  refine Az (x:=Go.sizeOf e) _ (Fp O ?_)
  exact⟨rfl,rfl⟩)
end
variable {ops:Ao_}{rest:List Nat}
variable{pl:Nat}
section
variable {b:Frame}{n:Nat}
variable {i:Nat}{x:Operand}{v:Value}
theorem J8{cells:Av_}{Q:Addr->St->Prop}(K:Nd E H B)(k:∀r,Nd E H (B++ [(r,.cells cells e (0,0))])->Q ⟨r,0,none⟩ (mk E H (B++ [(r,.cells cells e (0,0))]))):lp P (newRow e cells) (mk E H B) Q X:=by
 simp only[newRow,newObj,bind,Sem.bind,lp,pure];refine⟨V,λr O U=>?_⟩;let⟨Y,Z⟩:=Lp O U (.cells cells e (0,0)) K;rw[Z];exact k r Y
theorem JL.alloc{z:Value}(K:ops[i]?=some ⟨d,.alloc e,ty,p,af,g⟩)(hw:AY L ops ⟨d,.alloc e,ty,p,af,g⟩=some true)(O:BU b n ⟨d,.alloc e,ty,p,af,g⟩=true)(U:Nd E H B)(Y:zeroOf P e=some z)
  (h:∀r,Nd E H (B++ [(r,.cells z.cells e (0,0))])->JL J Q b n (Ay L d (.pointer (some ⟨r,0,none⟩))) ds (.inRegion ops rest::k) cs (mk E H (B++ [(r,.cells z.cells e (0,0))]))):
  JL J Q b n L ds (.inRegion ops (i::rest)::k) cs (mk E H B):=
 JL.op K hw O λρ _=>by
  show lp P (do pure (Next.value (← Instr.alloc e true (.tuple #[])))) _ _ _
  refine Az _ _ ?_
  unfold Instr.alloc
  refine Az _ _ (H8 Y ?_)
  refine Az _ _ (J8 U λr Z=>?_)
  exact h r Z
theorem JL.box(K:ops[i]?=some ⟨d,.box e x,ty,p,af,g⟩)(hw:AY L ops ⟨d,.box e x,ty,p,af,g⟩=some true)(O:BU b n ⟨d,.box e x,ty,p,af,g⟩=true)(U:Nd E H B)(Y:ev L x=some v)
  (h:∀r,Nd E H (B++ [(r,.cells v.cells e (0,0))])->JL J Q b n (Ay L d (.pointer (some ⟨r,0,none⟩))) ds (.inRegion ops rest::k) cs (mk E H (B++ [(r,.cells v.cells e (0,0))]))):
  JL J Q b n L ds (.inRegion ops (i::rest)::k) cs (mk E H B):=
 JL.op K hw O λρ Z=>by
  show lp P (do pure (Next.value (← Instr.box e (ρ x)))) _ _ _
  rw[Z x v Y]
  refine Az _ _ ?_
  unfold Instr.box
  refine Az _ _ (J8 U λr ac=>?_)
  exact h r ac
def A3(c:Av_)(off:Nat):Lv_->Av_
 | []=>c
 | v::vs=>A3 (c.setIfInBounds off v) (off+1) vs
theorem Np(c:Av_)(off:Nat)(vs:Lv_):(A3 c off vs).size=c.size:=by
 induction vs generalizing c off with
 | nil=>rfl
 | cons v vs K=>simp[A3,K]
theorem OD{bk:Nat}{Q:Unit->St->Prop}{X:Halt->St->Prop}{pl off:Nat}{sp:Option Nat}:∀(vs:Lv_) (j:Nat) (c:Av_) (B:List (Nat×Obj)),(∀v∈vs,C5 v=true)->Nd E H B->B[pl]?=some (bk,.cells c e (0,0))->off+j+vs.length<=c.size->(sp=none∨0<j)->
  (∀B',B'=B.set pl (bk,.cells (A3 c (off+j) vs) e (0,0))->Nd E H B'->Q () (mk E H B'))->lp P (storeCells ⟨bk,off,sp⟩ vs j) (mk E H B) Q X
 | [],j,c,B,_,O,K,_,_,k=>by
  simp only[storeCells,lp,pure]
  refine k B ?_ O
  simp only[A3]
  exact(qN λi=>by
   by_cases hi:pl=i
   .subst hi
    let⟨Z,ac⟩:=fx.1 K
    simp[Z,ac]
   .simp [hi])
 | v::vs,j,c,B,U,O,K,hle,Y,k=>by
  simp only[storeCells,pM] at*
  have ag:off+j<c.size:=by omega
  have ai:(Addr.add ⟨bk,off,sp⟩ j)=⟨bk,off+j,none⟩:=by
   unfold Addr.add;split
   .rename_i al;subst al;rcases Y with rfl | Y
    .rfl
    .omega
   .rfl
  have am:(cellAt (.cells c e (0,0)) ⟨bk,off+j,none⟩).isSome=true:=by simp[cellAt,ag]
  refine Az (x:=store (Addr.add ⟨bk,off,sp⟩ j) v) _ ?_;rw[ai];refine⟨V,U v (by simp),_,Ka O K,am,by simp[frozenAt],?_⟩;simp only[lp];have ap:LD (.cells c e (0,0)) ⟨bk,off+j,none⟩ v=.cells (c.setIfInBounds (off+j) v) e (0,0):=by simp[LD]
  rw[ap,eH O K];have aq:(B.set pl (bk,.cells (c.setIfInBounds (off+j) v) e (0,0)))[pl]?=some (bk,.cells (c.setIfInBounds (off+j) v) e (0,0)):=by
   have:pl<B.length:=(fx.1 K).1;simp[this]
  refine OD vs (j+1) _ _ (λu hu=>U u (f7 _ hu)) (O.set K) aq (by simp;omega) (.inr (by omega)) λav e2 aw=>k av ?_ aw;rw[e2,rk];simp only[A3]
  rfl
theorem TH{c:Av_}{Q:Unit->St->Prop}(K:Bp P t=some v.cells.size)(O:∀u∈v.cells.toList,C5 u=true)(U:Nd E H B)(Y:B[pl]?=some (bk,.cells c e (0,0)))(hle:off+v.cells.size<=c.size)
  (k:Nd E H (B.set pl (bk,.cells (A3 c off v.cells.toList) e (0,0)))->Q () (mk E H (B.set pl (bk,.cells (A3 c off v.cells.toList) e (0,0))))):lp P (storeVar t ⟨bk,off,none⟩ v) (mk E H B) Q X:=by
 unfold storeVar;refine Az _ _ (Fp K ?_);simp only[ne_eq,not_true_eq_false,qp];refine OD v.cells.toList 0 c B O U Y (by simpa using hle) (.inl V) λB' e Z=>?_;subst e;exact k Z
theorem JL.store{c:Av_}(pl:Nat)(O:ops[i]?=some ⟨d,.store t x y,ty,p,af,g⟩)(hw:AY L ops ⟨d,.store t x y,ty,p,af,g⟩=some true)(U:BU b n ⟨d,.store t x y,ty,p,af,g⟩=true)(Y:Nd E H B)
  (Z:ev L x=some (.pointer (some ⟨bk,off,none⟩))) (ac:ev L y=some v) (ag:Bp P t=some v.cells.size) (ai:∀u∈v.cells.toList,C5 u=true) (al:B[pl]?=some (bk,.cells c e (0,0))) (hle:off+v.cells.size<=c.size)
  (h:Nd E H (B.set pl (bk,.cells (A3 c off v.cells.toList) e (0,0)))->JL J Q b n (Ay L d undef) ds (.inRegion ops rest::k) cs (mk E H (B.set pl (bk,.cells (A3 c off v.cells.toList) e (0,0))))):
  JL J Q b n L ds (.inRegion ops (i::rest)::k) cs (mk E H B):=
 JL.op O hw U λρ K=>by
  show lp P (do Instr.storeAt t (ρ x) (ρ y);pure Next.skip) _ _ _
  rw[K x _ Z,K y _ ac]
  refine Az _ _ ?_
  unfold Instr.storeAt
  simp only[Instr.sureAddr,bind,Sem.bind,pure]
  exact TH ag ai Y al hle λam=>h am
end
def FY(P:Program)(t:TypeId):Option Nat:=(P.info? t).map (·.bytes)
variable{cx hi lo mx:Nat}{xs ys:Lv_}{ax:Option Addr}
section
variable {b:Frame}{n:Nat}
variable {i:Nat}{x:Operand}{v:Value}
theorem Lf{inf:TypeInfo}{Q:TypeInfo->St->Prop}(h:P.info? t=some inf)(k:Q inf s):lp P (typeInfo t) s Q X:=by
 simp only[typeInfo,bind,Sem.bind,program,lp,h];exact k
theorem Q9(h:FY P t=some sz):∃inf,P.info? t=some inf/\inf.bytes=sz:=by
 unfold FY at h;cases hi:P.info? t with
 | none=>rw[hi] at h;cases h
 | some i=>rw[hi] at h;simp at h;exact⟨i,rfl,h⟩
theorem Kb{z y:Nat}{code:BoundsCode}{f:Nat->Sem β}{K:β->St->Prop}(Y:z<=y)(O:lp P (f z) s K X):lp P (Instr.sliceBound (.int .i64 z) y code>>=f) s K X:=by
 refine Az _ _ ?_;unfold Instr.sliceBound;have U:(0:Int)<=(z:Int)/\(z:Int)<=(y:Int):=⟨by omega,by omega⟩;simp only[asIntOf,bind,Sem.bind,pure];rw[eS U];simpa [lp] using O
theorem IF(a:α)(f:α->Sem β):((pure a:Sem α)>>=f)=f a:=rfl
theorem gU{c:Nat}:lp P (Instr.sliceBounds true l c none none none) s (λr s'=>r=(0,l,c)/\s'=s) X:=by
 unfold Instr.sliceBounds;exact⟨V,V⟩
theorem iX{c:Nat}(K:lo<=l):lp P (Instr.sliceBounds true l c (some (.int .i64 lo)) none none) s (λr s'=>r=(lo,l,c)/\s'=s) X:=by
 simp only[Instr.sliceBounds,qs,rG,so,px,qp,IF];exact Kb K ⟨V,V⟩
theorem iR{c:Nat}(hh:hi<=c):lp P (Instr.sliceBounds true l c none (some (.int .i64 hi)) none) s (λr s'=>r=(0,hi,c)/\s'=s) X:=by
 simp only[Instr.sliceBounds,qs,rG,so,px,qp,IF];exact Kb hh ⟨V,V⟩
theorem iz{c:Nat}(hh:hi<=c)(K:lo<=hi):lp P (Instr.sliceBounds true l c (some (.int .i64 lo)) (some (.int .i64 hi)) none) s (λr s'=>r=(lo,hi,c)/\s'=s) X:=by
 have e:Instr.sliceBounds true l c (some (.int .i64 lo)) (some (.int .i64 hi)) none=(Instr.sliceBound (.int .i64 hi) c .sliceAcap>>=λh=>Instr.sliceBound (.int .i64 lo) h .sliceB>>=λl=>pure (l,h,c)):=by
  simp[Instr.sliceBounds]
 rw[e];exact Kb hh (Kb K ⟨V,V⟩)
theorem iY{c:Nat}(hm:mx<=c)(hh:hi<=mx):lp P (Instr.sliceBounds true l c none (some (.int .i64 hi)) (some (.int .i64 mx))) s (λr s'=>r=(0,hi,mx)/\s'=s) X:=by
 simp only[Instr.sliceBounds,qs,rG,so,px,qp,IF];exact Kb hm (Kb hh ⟨V,V⟩)
theorem ij{c:Nat}(hm:mx<=c)(hh:hi<=mx)(K:lo<=hi):lp P (Instr.sliceBounds true l c (some (.int .i64 lo)) (some (.int .i64 hi)) (some (.int .i64 mx))) s (λr s'=>r=(lo,hi,mx)/\s'=s) X:=by
 simp only[Instr.sliceBounds,qs,rG,so,px,qp,IF];exact Kb hm (Kb hh (Kb K ⟨V,V⟩))
theorem Y3{c:Nat}{Y Z ac:Option Value}
  (O:match ac with | some w=>w=.int .i64 mx | none=>mx=c) (K:match Z with | some w=>w=.int .i64 hi | none=>hi=l/\ac=none) (U:match Y with | some w=>w=.int .i64 lo | none=>lo=0) (hm:mx<=c) (hh:hi<=mx) (ag:lo<=hi):
  lp P (Instr.sliceBounds true l c Y Z ac) s (λr s'=>r=(lo,hi,mx)/\s'=s) X:=by
 cases ac with
 | none=>
  cases Z with
  | none=>
   cases Y with
   | none=>obtain rfl:mx=c:=O;obtain rfl:hi=l:=K.1;obtain rfl:lo=0:=U;exact gU
   | some w=>obtain rfl:mx=c:=O;obtain rfl:hi=l:=K.1;obtain rfl:w=.int .i64 lo:=U;exact iX ag
  | some w=>
   cases Y with
   | none=>obtain rfl:mx=c:=O;obtain rfl:w=.int .i64 hi:=K;obtain rfl:lo=0:=U;exact iR hh
   | some w'=>obtain rfl:mx=c:=O;obtain rfl:w=.int .i64 hi:=K;obtain rfl:w'=.int .i64 lo:=U;exact iz hh ag
 | some w0=>
  cases Z with
  | none=>exact absurd K.2 (λh=>by cases h)
  | some w=>
   cases Y with
   | none=>obtain rfl:w0=.int .i64 mx:=O;obtain rfl:w=.int .i64 hi:=K;obtain rfl:lo=0:=U;exact iY hm hh
   | some w'=>obtain rfl:w0=.int .i64 mx:=O;obtain rfl:w=.int .i64 hi:=K;obtain rfl:w'=.int .i64 lo:=U;exact ij hm hh ag
theorem ZY{a:Option Addr}{c:Nat}{O U K:Option Value}{Q:Value->St->Prop}(Y:P.underlying t=some (.slice e))(Z:Bp P e=some sz)
  (ac:match K with | some w=>w=.int .i64 mx | none=>mx=c) (ag:match U with | some w=>w=.int .i64 hi | none=>hi=l/\K=none) (ai:match O with | some w=>w=.int .i64 lo | none=>lo=0) (hm:mx<=c) (hh:hi<=mx) (al:lo<=hi)
  (k:Q (.slice (if mx=lo then a else a.map (·.add (lo*sz))) (hi - lo) (mx - lo)) s):lp P (Instr.slice t (.slice a l c) O U K) s Q X:=by
 unfold Instr.slice;refine Az _ _ (CG Y ?_);have hb:=Y3 (P:=P) (s:=s) (X:=X) ac ag ai hm hh al;refine Az _ _ (EI _ hb ?_ (λ_ _ h=>h));rintro r s' ⟨rfl,rfl⟩;exact Az _ _ (Fp Z k)
theorem Yl.slice{ρ:Operand->Value}{a:Option Addr}{c:Nat}{olo ohi omx:Option Operand}(O:P.underlying t=some (.slice e))(U:Bp P e=some sz)(Y:ρ x=.slice a l c)
  (Z:match omx with | some w=>ρ w=.int .i64 mx | none=>mx=c) (K:match ohi with | some w=>ρ w=.int .i64 hi | none=>hi=l/\omx=none) (ac:match olo with | some w=>ρ w=.int .i64 lo | none=>lo=0) (hm:mx<=c) (hh:hi<=mx) (ag:lo<=hi):
  Yl P ⟨d,.slice t x olo ohi omx,ty,p,af,g⟩ ρ s (.slice (if mx=lo then a else a.map (·.add (lo*sz))) (hi - lo) (mx - lo)):=
 Gp (sm:=Instr.sliceAt t (ρ x) (olo.map ρ) (ohi.map ρ) (omx.map ρ)) V (by
  rw[Y];unfold Instr.sliceAt
  refine Az _ _ (CG O ?_)
  refine ZY O U (mx:=mx) (hi:=hi) (lo:=lo) ?_ ?_ ?_ hm hh ag ⟨rfl,rfl⟩;cases omx<;>exact Z
  .cases ohi with
   | none=>exact⟨K.1,by rw[K.2];rfl⟩
   | some w=>exact K
  .cases olo<;>exact ac)
def Ik(s:St)(v:Value)(sz:Nat)(xs:Lv_):Prop:=
 match v with
 | .slice (some a) l c=>(a.spot=none∨l=0)/\xs.length=l*sz/\l<=c/\∀j w,xs[j]?=some w->s.cell? ⟨a.block,a.off+j,none⟩=some w
 | .slice none l _=>l=0/\xs=[]
 | _=>False
theorem Ek{a:Addr}(h:a.spot=none)(j:Nat):a.add j=⟨a.block,a.off+j,none⟩:=by
 unfold Addr.add;obtain⟨b,o,sp⟩:=a;simp only at h;subst h;split;rename_i e;subst e;rfl;rfl
theorem Lc{Q:Av_->St->Prop}(Y:∃a c,v=.slice a l c)(h:Ik s v sz xs)(k:Q xs.toArray s):lp P (Builtin.firstCells sz l v) s Q X:=by
 obtain⟨a,c,rfl⟩:=Y;cases a with
 | none=>
  obtain⟨K,rfl⟩:=h;exact k
 | some a=>
  obtain⟨K,O,ac,Z⟩:=h;refine Tw O.symm (λj w U=>?_) k;rcases K with K | K;rw[Ek K];exact Z j w U;rw[K,rl] at O;rw[pL O] at U;cases U
theorem ZL(nl:Nat):∀(r c:Nat),Builtin.growBy nl r c<=max c (2*nl+768):=by
 intro r
 induction r with
 | zero=>intro c;simp[Builtin.growBy];omega
 | succ r K=>
  intro c;simp only[Builtin.growBy];split;omega;rename_i h;have:=K (c+(c+768)/4);omega
theorem TT{need old:Nat}(h:old<need):Builtin.nextslicecap need old<=2*need+768:=by
 unfold Builtin.nextslicecap;split;omega;split;omega;have:=ZL need 4 old;omega
theorem To(z:Av_)(m:Nat):(Builtin.zeroCells z m).size=m*z.size:=by simp[Builtin.zeroCells]
def Ql(B:List (Nat×Obj))(pl:Nat)(e:TypeId)(sz:Nat)(a:Option Addr)(l c:Nat)(xs:Lv_):Prop:=
 (a=none/\l=0/\c=0/\xs=[])∨∃bk f,a=some ⟨bk,0,none⟩/\B[pl]?=some (bk,.cells f e (0,0))/\f.size=c*sz/\l<=c/\xs=f.toList.take (l*sz)
theorem QS(c:Av_)(off:Nat)(vs:Lv_)(h:off+vs.length<=c.size):(A3 c off vs).toList.take (off+vs.length)=c.toList.take off++vs:=by
 induction vs generalizing c off with
 | nil=>simp[A3]
 | cons v vs O=>
  simp only[A3,pM] at*;have:=O (c.setIfInBounds off v) (off+1) (by simp;omega);rw[show off+(vs.length+1)=off+1+vs.length from by omega,this];have K:off<c.toList.length:=by simp;omega
  rw[Array.toList_setIfInBounds,qE];have U:(c.toList.set off v)[off]?=some v:=by simp at K;simp[K]
  rw[U];simp[List.take_set_of_le]
theorem Re{a:Option Addr}{c id m:Nat}{z:Value}{Q:Value->St->Prop}
  (a5:ats[0]?=some t) {t1 a6:TypeId}(a7:ats[1]?=some t1) (a8:P.underlying t1=some (.slice a6)) (a9:P.underlying t=some (.slice e)) (bb:Bp P e=some sz) (hb:FY P e=some id) (be:zeroOf P e=some z) (bi:z.cells.size=sz)
  (am:Nd E H B) (ap:Ql B pl e sz a l c xs)
  (ai:Ik (mk E H B) (.slice ax m cx) sz ys) (bn:∀w∈ys,C5 w=true) (b5:0<id) (b6:l+m<=2^40) (bo:id<=64)
  (bv:∀bk f K,a=some ⟨bk,0,none⟩->B[pl]?=some (bk,.cells f e (0,0))->K=A3 f (l*sz) ys->l+m<=c->K.size=c*sz->K.toList.take ((l+m)*sz)=xs++ys->Nd E H (B.set pl (bk,.cells K e (0,0)))->Q (.slice a (l+m) c) (mk E H (B.set pl (bk,.cells K e (0,0)))))
  (bw:a=none->m=0->Q (.slice none 0 0) (mk E H B))
  (bx:∀r K Y,l+m<=Y->K.size=Y*sz->K.toList.take ((l+m)*sz)=xs++ys->Nd E H (B++ [(r,.cells K e (0,0))])->Q (.slice (some ⟨r,0,none⟩) (l+m) Y) (mk E H (B++ [(r,.cells K e (0,0))]))):
  lp P (Builtin.append_ ats ty #[.slice a l c,.slice ax m cx]) (mk E H B) Q X:=by
 unfold Builtin.append_;simp only[a5,a7,pR,qD,qX];refine Az _ _ (CG a9 ?_);refine Az _ _ (Fp bb ?_);refine Az _ _ (CG a8 ?_);simp only[IF,px,qp,Builtin.lenOf,tB,qs];have Z:ys.length=m*sz:=by
  cases ax with
  | none=>obtain⟨aq,av⟩:=ai;subst aq av;simp
  | some ad=>exact ai.2.1
 have aw:∃(bz:Option Addr) (Y:Nat),Ik (mk E H B) (.slice a l c) sz xs/\bz=a/\Y=c:=by
  refine⟨a,c,?_,V,V⟩;rcases ap with⟨rfl,rfl,rfl,rfl⟩ | ⟨bk,f,rfl,ac,O,ag,rfl⟩;exact⟨V,V⟩
  .have hle:l*sz<=f.size:=by rw[O];exact qi _ ag
   refine⟨.inl V,by simp[ra hle],ag,λj w al=>?_⟩;refine UD am ac ?_;simp only[qZ];rw[qI] at al;split at al;simpa using al;cases al
 obtain⟨_,_,aw,_,_⟩:=aw;have ay:xs.length=l*sz:=by
  rcases ap with⟨rfl,rfl,rfl,rfl⟩ | ⟨bk,f,rfl,ac,O,ag,rfl⟩;simp
  .have hle:l*sz<=f.size:=by rw[O];exact qi _ ag
   simp[ra hle]
 split
 .rename_i a3;refine Az _ _ (Lc ⟨ax,cx,V⟩ ai ?_);rcases ap with⟨rfl,rfl,rfl,rfl⟩ | ⟨bk,f,rfl,ac,O,ag,rfl⟩
  .obtain rfl:m=0:=by omega
   simp only;exact bw V V
  .simp only;have hle:l*sz+ys.length<=f.size:=by rw[Z,O,← q8];exact qi _ a3
   have b0:(Addr.add ⟨bk,0,none⟩ (l*sz))=⟨bk,l*sz,none⟩:=by rw[Ek rfl];simp
   rw[b0];refine Az _ _ (OD (pl:=pl) ys.toArray.toList 0 f B (by simpa using bn) am ac (by simpa using hle) (.inl V) λB' a4 az=>?_);simp only[qq] at a4;subst a4;refine bv bk f _ V ac V a3 (by rw[Np,O]) ?_ az;have:=QS f (l*sz) ys hle;rw[Z,← q8] at this;exact this
 .rename_i ca;have aq:¬(((l+m:Nat):Int)>IntKind.i64.max/\(False∨id=0)):=by rintro⟨_,h | h⟩<;>omega
  have av:¬(Builtin.nextslicecap (l+m) c*id>2^48):=by
   have:=TT (need:=l+m) (old:=c) (by omega);have cc:Builtin.nextslicecap (l+m) c*id<=(2*(l+m)+768)*64:=Nat.mul_le_mul this bo;omega
  let⟨inf,a0,a1⟩:=Q9 hb;refine Az _ _ (Lf a0 ?_);rw[a1,d9 aq];refine Az _ _ (Lf a0 ?_);rw[a1,d9 av];refine Az _ _ ?_;simp only[choose,lp,Question.forced,px,qp];refine⟨V,λb1=>?_⟩;generalize b2:(Question.appendCap (l+m) c e).cut b1=a2;have b3:l+m<=a2:=by rw[← b2];simp[Question.cut]
  refine Az _ _ (Lf a0 ?_);rw[a1];have b4:∀{α:Type}{f:Unit->Sem α}{Q:α->St->Prop},lp P (f ()) (mk E H B) Q X->lp P (askRoom (a2*id)>>=f) (mk E H B) Q X:=by
   intro α f Q O;refine Az _ _ ?_;unfold askRoom;split;exact⟨.inl ⟨V,V⟩,O⟩;exact O
  refine b4 (Az _ _ (Lc ⟨a,c,V⟩ aw ?_));refine Az _ _ (Lc ⟨ax,cx,V⟩ ai ?_);refine Az _ _ (H8 be ?_);refine Az _ _ (J8 am λr az=>?_);refine bx r _ a2 b3 ?_ ?_ az;simp only[Array.size_append,rf,To,bi,ay,Z];rw[← q8,← q8];congr 1;omega;simp only[Array.toList_append];rw[sT (by simp[ay,Z,q8])];rw[qJ (by simp[ay,Z,q8])]
end
theorem QA{P:Program}(x:Sem α):∀{s:St}{Q:α->St->Prop}{X:Halt->St->Prop},lp P x s Q X->lp P x s (λa s'=>Q a s'/\s'.E=s.E/\s'.q=s.q) X:=by
 induction x with
 | pure a=>intro s Q X h;exact⟨h,rfl,rfl⟩
 | load m a k K=>intro s Q X h;obtain⟨O,v,U,Y⟩:=h;exact⟨O,v,U,K _ Y⟩
 | store m a v k K=>intro s Q X h;obtain⟨O,U,o,Y,ac,ag,ai⟩:=h;exact⟨O,U,o,Y,ac,ag,K ai⟩
 | new o k K=>intro s Q X h;exact⟨h.1,λr O U=>K _ (h.2 r O U)⟩
 | shape r k K=>intro s Q X h;obtain⟨o,O,U⟩:=h;exact⟨o,O,K _ U⟩
 | freeze a n k K=>intro s Q X h;exact h
 | frozen a k K=>intro s Q X h;obtain⟨o,O,U⟩:=h;exact⟨o,O,K _ U⟩
 | getObj r k K=>intro s Q X h;obtain⟨o,O,U,Y⟩:=h;exact⟨o,O,U,K _ Y⟩
 | setObj r o k K=>intro s Q X h;obtain⟨O,U,Y⟩:=h;exact⟨O,U,K Y⟩
 | choose q k K=>
  intro s Q X h;simp only[lp] at h ⊢;split;rename_i Z;rw[eS Z] at h;exact K _ h;rename_i Z;rw[d9 Z] at h;exact⟨h.1,λt=>K _ (h.2 t)⟩
 | sys c k K=>intro s Q X h;exact h
 | program k K=>intro s Q X h;exact K _ h
 | mark m k K=>intro s Q X h;exact⟨h.1,K h.2⟩
 | halt h=>intro s Q X h;exact h
def BA(D:Nat->Bool)(s:St):St:=⟨λb=>if D b then s.get b else s.E b,λb=>if D b then none else s.H b,s.q⟩
def CB(D:Nat->Bool)(s s':St):St:=⟨λb=>if D b then s.E b else s'.E b,λb=>if D b then s.H b else s'.H b,s'.q⟩
theorem Mo(D:Nat->Bool)(s:St):CB D s (BA D s)=s:=by
 obtain⟨E,H,q⟩:=s;unfold CB BA;congr 1;funext b;by_cases h:D b<;>simp[h];funext b;by_cases h:D b<;>simp[h]
theorem bf{D:Nat->Bool}{s:St}(f:Fits s w):Fits (BA D s) w where
 e b o h:=by
  by_cases hd:D b;simp[BA,hd] at h;exact f.get h;simp[BA,hd] at h;exact f.e b o h
 h b o h:=by
  by_cases hd:D b;simp[BA,hd] at h;simp[BA,hd] at h;exact f.h b o h
 d b h:=by
  by_cases hd:D b;simp[BA,hd];simp[BA,hd] at h ⊢;exact f.d b h
def Fh{P:Program}(J:Judge P)(f:FuncId)(args:Av_)(s:St)(R:Value->St->Prop):Prop:=
 ∀(Q:Gs_) (c:Frame) (cs:Lf_),(∀v s',R v s'->J.ok Q (G (c.finish v) cs) s')->J.ok Q (G (Frame.enter P f args .normal) (c::cs)) s
variable{R:Value->St->Prop}
theorem Fh.M{P:Program}{J:Judge P}{f:FuncId}{s:St}{K:Value->St->Prop}(h:Fh J f args s R)(O:∀v s',R v s'->K v s'):Fh J f args s K:=
 λQ c cs U=>h Q c cs λv s' Y=>U v s' (O v s' Y)
section
variable {b:Frame}{n:Nat}
theorem Judge.VC(D:Nat->Bool){ops:Ao_}{i:Nat}{rest:List Nat}{o:Oper}(Y:ops[i]?=some o)(hw:Region.wanted o (yielded ops T)=true)(a5:b.kind≠ .early)
  (hd:∀c,o.op≠ .defer c) (a6:s.q=false)
  (h:lp P (execOp (BL T) o) (BA D s) (λam s'=>upon J Q b T ds ops i rest k cs o.dst am (CB D s s')) (λ_ _=>False)):
  J.ok Q (G (fr b T ds (.inRegion ops (i::rest)::k)) cs) s:=by
 refine J.step ⟨V,λw f=>?_,λe=>by subst e;cases a6⟩;have Z:((fr b T ds (.inRegion ops (i::rest)::k)).kind==CallKind.early)=false:=by simpa [fr] using a5
 have a7:stepG P J.main (G (fr b T ds (.inRegion ops (i::rest)::k)) cs) w=stepG.apply P true (fr b T ds (.inRegion ops (i::rest)::k)) cs none (execOp (BL T) o) w:=by
  rw[stepG_op Y hw];split;rename_i l c bo e2;exact absurd e2 (hd c);rfl
 let⟨ac,ap,aq,a8,O⟩:=OX _ (QA _ h) (bf (D:=D) f);have av:=RD (P:=P) (fn:=b.fn) a8;have a0:=λv=>G6 (b:=b) (ds:=ds) (k:=k) T ops i rest v o Y;have key:∀w',Fits ac w'->Fr (BA D s) w ac w'->ac.E=(BA D s).E->Fits (CB D s ac) w'/\Fr s w (CB D s ac) w':=by
  intro w' aw g2 a9;have a1:∀b,D b=true->b<w.heap.size->w'.heap[b]?=w.heap[b]? :=λb hb ay=>g2.keep b ay (by simp[BA,hb]);have a2:∀b o,(s.H b=some o∨s.E b=some o)->b<w.heap.size:=λb o Y=>by
   have:=Y.elim (f.h b o) (f.e b o);rcases mt b w.heap.size with az | az;exact az;simp[py az] at this
  refine⟨⟨λb o hb=>?_,λb o hb=>?_,λb hb=>?_⟩,⟨g2.size,λb ay hb=>?_,λb hb=>?_,λb o hb=>?_,λb hb=>?_,g2.tape,g2.os,g2.output⟩⟩;by_cases K:D b;simp[CB,K] at hb;rw[a1 b K (a2 b o (.inr hb))];exact f.e b o hb;simp[CB,K] at hb;exact aw.e b o hb;by_cases K:D b;simp[CB,K] at hb;rw[a1 b K (a2 b o (.inl hb))];exact f.h b o hb;simp[CB,K] at hb;exact aw.h b o hb;by_cases K:D b;simp[CB,K] at hb ⊢;exact f.d b hb;simp[CB,K] at hb ⊢;exact aw.d b hb;exact g2.keep b ay (by by_cases K:D b<;>simp[BA,K,hb]);by_cases K:D b;simp[CB,K] at hb;exact .inl hb;simp[CB,K] at hb;rcases g2.own b hb with q | q;left;simpa [BA,K] using q;exact .inr q;by_cases K:D b;simp[CB,K];exact hb;simp only[CB,K,px,qp];rw[a9];simp[BA,K,hb];by_cases K:D b;simp[CB,K] at hb;exact .inl hb;simp[CB,K] at hb;rcases g2.Fg b hb with q | q | q;left;simpa [BA,K] using q;right;left;simpa [BA,K] using q;exact .inr (.inr q)
 have bb:∀w',(∀e∈seen P b.fn ((execOp (BL T) o).events P w #[]),Ev (BA D s) w w' e)->∀e∈seen P b.fn ((execOp (BL T) o).events P w #[]),Ev s w w' e:=by
  intro w' he e hm;have:=he e hm;have a3:∀{b wr},Hn (BA D s) w w' b wr->Hn s w w' b wr:=by
   intro b wr a4;refine⟨a4.1,?_⟩;rcases a4.2 with q | q | ⟨q,q'⟩;left;by_cases K:D b<;>simp[BA,K] at q;exact q;exact .inr (.inl q);by_cases K:D b;simp[BA,K,St.get] at q;by_cases al:s.E b=none;left;intro be;rw[al,be] at q;exact q V;exact .inr (.inr ⟨al,q'⟩);simp[BA,K] at q;exact .inr (.inr ⟨q,q'⟩)
  unfold Ev at this ⊢;split<;>rename_i bi<;>simp only[bi] at this;exact⟨this.1,a3 this.2⟩;exact⟨this.1,a3 this.2⟩;trivial;trivial
 rw[a7];cases U:(execOp (BL T) o).run P w with
 | ok am w'=>
  rw[U] at ap aq O av;simp only[LR] at ap aq av;obtain⟨O,al,_⟩:=O;let⟨k1,ag⟩:=key w' ap aq al;have ai:=bb w' av;cases am with
  | value v=>exact⟨_,_,w',seen P b.fn ((execOp (BL T) o).events P w #[])++ #[],by simp[stepG.apply,U,Z,GStep.after,G,a0,Gt],O,k1,ag,by simpa using ai⟩
  | skip=>exact⟨_,_,w',seen P b.fn ((execOp (BL T) o).events P w #[])++ #[],by simp[stepG.apply,U,Z,GStep.after,G,a0,Gt],O,k1,ag,by simpa using ai⟩
  | enter g args=>exact⟨_,_,w',seen P b.fn ((execOp (BL T) o).events P w #[])++ #[],by simp[stepG.apply,U,Z,GStep.after,G,Gt,IS],O,k1,ag,by simpa using ai⟩
  | round l g tm as bv=>exact⟨_,_,w',seen P b.fn ((execOp (BL T) o).events P w #[])++ #[],by simp[stepG.apply,U,Z,GStep.after,G,Gt,IS],O,k1,ag,by simpa using ai⟩
  | defer d=>
   have bn:=G6 (b:=b) (ds:=d::ds) (k:=k) T ops i rest undef o Y;exact⟨_,_,w',seen P b.fn ((execOp (BL T) o).events P w #[])++ #[],by
    rw[← bn];simp[stepG.apply,U,Z,GStep.after,G,Gt,IS];rfl,O,k1,ag,by simpa using ai⟩
  | _=>exact O.elim
 | halt x w'=>rw[U] at O;exact O.elim
end
def SF(m:Nat)(listed:Array Bool):Bool:=(List.range m).all λi=>listed.getD i false
def Bf(listed:Array Bool)(i:Nat):Array Bool:=listed.setIfInBounds i true
variable{oi:Oper}
section
variable (J:Judge P)(Q:Gs_)(b:Frame)(ds:Ld_)(ops:Ao_)(k:Li_)(cs:Lf_)(m:Nat)(D:Nat->Bool)
def JA:Nat->Array Bool->Av_->St->Prop
 | 0,listed,T,s=>Region.ready .any ops listed=[]/\J.ok Q (G (fr b T ds (.inRegion ops []::k)) cs) s
 | fuel+1,listed,T,s=>
  (SF m listed=true/\∀t,J.ok Q (G (fr b T ds (.inRegion ops (Region.linearise.go .any ops (fuel+1) t listed [])::k)) cs) s)∨
  (Region.ready .any ops listed≠ []/\s.q=false/\∀i∈Region.ready .any ops listed,∀o,ops[i]?=some o->(∀c,o.op≠ .defer c)/\
   (Region.wanted o (yielded ops T)=false->JA fuel (Bf listed i) (CV T o.dst undef) s)/\
   (Region.wanted o (yielded ops T)=true->lp P (execOp (BL T) o) (BA D s) (λO s'=>match O with
    | .value v=>JA fuel (Bf listed i) (CV T o.dst v) (CB D s s')
    | .skip=>JA fuel (Bf listed i) (CV T o.dst undef) (CB D s s')
    | .enter f args=>∃R,Fh J f args (CB D s s') R/\∀v K,R v K->K.q=false/\(∀x o,(BA D s).E x=some o->(BA D K).E x=some o)/\JA fuel (Bf listed i) (CV T o.dst v) K
    | _=>False) (λ_ _=>False)))
variable {J Q b ds ops k cs m D}
theorem aL(Z:b.kind≠ .early):∀(fuel t:Nat) (listed:Array Bool) (T:Av_) (s:St),JA J Q b ds ops k cs m D fuel listed T s->
  J.ok Q (G (fr b T ds (.inRegion ops (Region.linearise.go .any ops fuel t listed [])::k)) cs) s:=by
 intro fuel
 induction fuel with
 | zero=>intro t listed T s h;simpa [Region.linearise.go] using h.2
 | succ fuel K=>
  intro t listed T s h;rcases h with⟨_,h⟩ | ⟨ac,ag,h⟩;exact h t
  .obtain⟨i,hi⟩:∃i,(Region.ready .any ops listed)[t%(Region.ready .any ops listed).length]?=some i:=by
    have:0<(Region.ready .any ops listed).length:=r9.2 ac;exact⟨_,d6 (sE _ this)⟩
   have Y:=pC hi;have hgo:Region.linearise.go .any ops (fuel+1) t listed []=i::Region.linearise.go .any ops fuel (t/(Region.ready .any ops listed).length) (Bf listed i) []:=by
    simp only[Region.linearise.go];change (match(Region.ready .any ops listed)[t%(Region.ready .any ops listed).length]? with
     | some i=>Region.linearise.go .any ops fuel (t/(Region.ready .any ops listed).length) (listed.setIfInBounds i true) [i]
     | none=>[].reverse)=_
    rw[hi];simp only;rw[linearise_go_acc];rfl
   rw[hgo];let⟨_,o,O,_⟩:=mem_ready.1 Y;let⟨hd,ai,al⟩:=h i Y o O;cases hw:Region.wanted o (yielded ops T) with
   | false=>exact Judge.unwanted O hw (K _ _ _ _ (ai hw))
   | true=>
    refine Judge.VC D O hw Z hd ag (EI _ (al hw) ?_ (λ_ _ h=>h));intro am s' U;cases am with
    | value v=>exact K _ _ _ _ U
    | skip=>exact K _ _ _ _ U
    | enter f args=>
     obtain⟨R,ap,aq⟩:=U;refine ap Q _ cs λv av aw=>?_;rw[G6 _ _ _ _ _ _ O];exact K _ _ _ _ (aq v av aw).2.2
    | _=>exact U.elim
theorem de{d:Option Tmp}{v:Value}{x:Operand}(h:∀t,d=some t->x≠ .tmp t):BL (CV T d v) x=BL T x:=by
 cases d with
 | none=>rfl
 | some t=>
  cases x with
  | tmp u=>
   have K:t≠u:=λe=>h t rfl (e▸rfl);simp only[CV,BL,pd,pe K]
  | _=>rfl
theorem IH{d:Option Tmp}{v:Value}{o:Oper}(K:∀cs b,o.op≠ .select cs b)(h:∀t,d=some t->t ∉ o.looksAt ops):
  execOp (BL (CV T d v)) o=execOp (BL T) o/\Region.wanted o (yielded ops (CV T d v))=Region.wanted o (yielded ops T):=by
 refine⟨execOp_congr o K λx O=>de λt U Y=>h t U ?_,?_⟩;subst Y;exact p9 _ (sr.2 ⟨.tmp t,by simpa using O,V⟩)
 .have:=wanted_put (ops:=ops) o (⟨T,[]⟩:Act) d v h
  rwa[act_put'] at this
 where
  act_put' {T : Av_}{d : Option Tmp}{v : Value} : (⟨T, []⟩ : Act).put d v = ⟨CV T d v, []⟩ :=by cases d<;>rfl
theorem J6{d e:Option Tmp}{v u:Value}(h:∀t,d=some t->e≠some t):CV (CV T d v) e u=CV (CV T e u) d v:=by
 cases d with
 | none=>rfl
 | some t=>
  cases e with
  | none=>rfl
  | some K=>
   have O:t≠K:=λq=>h t rfl (q▸rfl);simp[CV,ss _ _ O]
theorem TL{D:Nat->Bool}{s s':St}(K:s'.E=(BA D s).E):(BA D (CB D s s')).E=(BA D s).E:=by
 funext x;by_cases h:D x;simp[BA,CB,h,St.get];have:=tO K x;simp[BA,h] at this;simp[BA,CB,h,this]
def Jx(ops:Ao_)(listed:Array Bool)(i:Nat)(oi:Oper):Bool:=
 (List.range ops.size).all λj=>j==i || listed.getD j true || match ops[j]? with
  | some K=>(K.after.any λe=>Region.binds .any e&&e.on==i) || oi.apart ops K
  | none=>true
def waits(ops:Ao_):Nat->Nat->Nat->Bool
 | 0,_,_=>false
 | f+1,j,i=>match ops[j]? with
  | some K=>K.after.any λe=>Region.binds .any e&&(e.on==i || waits ops f e.on i)
  | none=>true
def El(ops:Ao_)(m:Nat):Bool:=
 (List.range ops.size).all λj=>decide (j<m) || (List.range m).all λi=>waits ops ops.size j i
def Ih(ops:Ao_)(listed:Array Bool):Bool:=
 (List.range ops.size).all λj=> !listed.getD j false || match ops[j]? with
  | some K=>K.after.all λe=> !Region.binds .any e || listed.getD e.on false
  | none=>true
theorem QU{listed:Array Bool}(h:Ih ops listed=true){j:Nat}(O:ops[j]?=some oi)(U:listed.getD j false=true):∀e∈oi.after,Region.binds .any e=true->listed.getD e.on false=true:=by
 intro e he hb;have:=pJ.1 h j (pw.2 (f8.1 O).1);rw[U,O] at this;simp only[s6,s7] at this;have:=rm.1 this e he;rw[hb] at this;simpa using this
theorem Tv{listed:Array Bool}(Z:Ih ops listed=true){i:Nat}:∀(f j:Nat) (O:Oper),ops[j]?=some O->(∀e∈O.after,Region.binds .any e=true->listed.getD e.on false=true)->waits ops f j i=true->listed.getD i false=true∨∃x,ops[x]?=none/\listed.getD x false=true:=by
 intro f
 induction f with
 | zero=>intro j O _ _ h;cases h
 | succ f ac=>
  intro j O ag hd h;simp only[waits,ag] at h;let⟨e,he,K⟩:=Array.any_eq_true'.1 h;simp only[gQ,qz,rb] at K;obtain⟨hb,K⟩:=K;have U:=hd e he hb;rcases K with rfl | K;exact .inl U
  .cases Y:ops[e.on]? with
   | none=>exact .inr ⟨_,Y,U⟩
   | some o=>exact ac e.on o Y (λai al am=>QU Z Y U ai al am) K
theorem JA.take{i:Nat}{w:Bool}{v:Value}(hi:ops[i]?=some oi)(co:i<m)(cp:El ops m=true)(ct:Region.noSelect ops=true)(cw:∀c,oi.op≠ .defer c):
  ∀(fuel:Nat) (listed:Array Bool) (T:Av_) (s:St),Jx ops listed i oi=true->Ih ops listed=true->listed.size=ops.size->i∈Region.ready .any ops listed->s.q=false->Region.wanted oi (yielded ops T)=w->
   (w=true->∀s',s'.q=false->(∀x o,(BA D s).E x=some o->s'.E x=some o)->Yl P oi (BL T) s' v)->
   JA J Q b ds ops k cs m D fuel (Bf listed i) (CV T oi.dst (if w then v else undef)) s->JA J Q b ds ops k cs m D (fuel+1) listed T s:=by
 have aq:∀(j:Nat) (ag:Oper),ops[j]?=some ag->∀cs b,ag.op≠Op.select cs b:=λj ag h cs b=>Region.noSelect_spec ct j ag cs b h;intro fuel
 induction fuel with
 | zero=>?_
 | succ fuel a0=>?_
 all_goals
  intro listed T s b0 b1 av a2 a3 hw aw h;refine .inr ⟨λe=>(by rw[e] at a2;cases a2),a3,λj b2 ag O=>?_⟩;by_cases ap:j=i
  .subst ap;obtain rfl:ag=oi:=by rw[hi] at O;exact(f5 O).symm
   refine⟨cw,λbe=>?_,λbi=>?_⟩;rw[be] at hw;subst hw;exact h;rw[bi] at hw;subst hw;refine EI _ (aw V (BA D s) a3 λ_ _ h=>h).out ?_ (λ_ _ h=>h);rintro b3 s' ⟨rfl,rfl⟩;rw[Mo];exact h
  ·
   have b4:j∈Region.ready .any ops (Bf listed i):=ready_mono b2 ap;let⟨ai,U,b5,bn⟩:=mem_ready.1 b2;obtain rfl:U=ag:=by rw[O] at b5;exact(f5 b5).symm
   have bo:=(mem_ready.1 a2).1;have cy:(U.after.any λe=>Region.binds .any e&&e.on==i)=false:=by
    rw[Array.any_eq_false];intro e he K;simp only[gQ,rb] at K;have:=bn _ (Array.getElem_mem he) K.1;rw[K.2] at this;have Y:listed.getD i true=listed.getD i false∨listed.size<=i:=by
     rcases mt i listed.size with q | q;left;simp[pd,q];exact .inr q
    rcases Y with Y | Y;rw[bo,this] at Y;cases Y;rw[pd,py Y] at this;simp at this
   have c0:oi.apart ops U=true:=by
    have ay:j<ops.size:=(f8.1 O).1;have:=pJ.1 b0 j (pw.2 ay);simp only[qz,rb] at this;rcases this with(q | q) | q;exact absurd q ap;rw[ai] at q;cases q;rw[O] at q;simp only[qz] at q;rw[cy] at q;exact q.resolve_left (by simp)
   let⟨a1,a4,a5⟩:=Oper.apart_spec c0;let⟨p1,p2⟩:=IH (ops:=ops) (T:=T) (v:=if w then v else undef) (aq j U O) a1
   first
    | exact absurd b4 (by rw[h.1];simp)
    | (
     rcases h with⟨c1,_⟩ | ⟨eb,_,h⟩
     ·
      exfalso
      have c2:¬j<m:=by
       intro ay
       have:=pJ.1 c1 j (pw.2 ay)
       have e2:(Bf listed i).getD j false=listed.getD j false:=getD_set_ne false (p6 ap)
       rw[e2] at this
       have Y:listed.getD j true=true:=by
        rcases mt j listed.size with q | q;simp[pd,q] at this ⊢;exact this;simp[pd,py q] at this
       rw[ai] at Y;cases Y
      have ay:j<ops.size:=(f8.1 O).1
      have:=pJ.1 cp j (pw.2 ay)
      simp only[qz,qw] at this
      have:=pJ.1 (this.resolve_left c2) i (pw.2 co)
      rcases Tv b1 _ j U O (λe he hb=>bn e he hb) this with q | ⟨x,Z,ac⟩
      .have c3:i<listed.size:=by rw[av];exact(f8.1 hi).1
       simp[pd,c3] at q bo
       rw[bo] at q;cases q
      .have:¬x<listed.size:=by rw[av];intro K;simp[K] at Z
       simp[pd,this] at ac
     .let⟨hd,be,bi⟩:=h j b4 U O
      have a6:Bf (Bf listed i) j=Bf (Bf listed j) i:=by
       unfold Bf;exact ss _ _ (p6 ap)
      have a7:i∈Region.ready .any ops (Bf listed j):=ready_mono a2 (p6 ap)
      have a8:Jx ops (Bf listed j) i oi=true:=by
       refine pJ.2 λx K=>?_
       have:=pJ.1 b0 x K
       simp only[qz,rb] at this ⊢
       rcases this with(q | q) | q;exact .inl (.inl q)
       .left;right
        by_cases e:j=x;subst e;rw[ai] at q;cases q;rw[Bf,getD_set_ne true e];exact q
       .exact .inr q
      have a9:(Bf listed j).size=ops.size:=by unfold Bf;simpa using av
      have bb:Ih ops (Bf listed j)=true:=by
       refine pJ.2 λx K=>?_
       cases bv:ops[x]? with
       | none=>simp
       | some c4=>
        simp only[qz,ru]
        by_cases e:j=x
        .subst e
         obtain rfl:c4=U:=by rw[O] at bv;exact(f5 bv).symm
         right
         refine rm.2 λe he=>?_
         cases hb:Region.binds .any e with
         | false=>simp
         | true=>
          have:=bn e he hb
          by_cases e2:j=e.on
          .rw [← e2] at this
           have bw:j<listed.size:=by rw[av];exact(f8.1 O).1
           simp[pd,bw] at this ai
           rw[ai] at this;cases this
          .rw [Bf,getD_set_ne false e2];simpa using this
        .cases b6:(Bf listed j).getD x false with
         | false=>exact .inl rfl
         | true=>
          right
          have c5:listed.getD x false=true:=by rw[Bf,getD_set_ne false e] at b6;exact b6
          refine rm.2 λbx he=>?_
          cases hb:Region.binds .any bx with
          | false=>simp
          | true=>
           have:=QU b1 bv c5 bx he hb
           by_cases e2:j=bx.on
           .rw [← e2] at this
            have bw:j<listed.size:=by rw[av];exact(f8.1 O).1
            simp[pd,bw] at this ai
            rw[ai] at this;cases this
           .rw [Bf,getD_set_ne false e2];simpa using this
      refine⟨hd,λc6=>?_,λc7=>?_⟩
      .have:=be (by rw[p2];exact c6)
       rw[a6,J6 a4] at this
       let⟨Z,ac⟩:=IH (ops:=ops) (T:=T) (d:=U.dst) (v:=undef) (o:=oi) (aq i oi hi) a5
       exact a0 _ _ _ a8 bb a9 a7 a3 (by rw[ac];exact hw) (λal s' c8 bz=>by unfold Yl;rw[Z];exact(aw al s' c8 bz).out) this
      .have ca:=QA _ (bi (by rw[p2];exact c7))
       rw[p1] at ca
       refine EI _ ca ?_ (λ_ _ h=>h)
       rintro b3 s' ⟨K,bz,c9⟩
       have cc:=TL (D:=D) bz
       have ce:(CB D s s').q=false:=by show s'.q=false;rw[c9];exact a3
       cases b3 with
       | value u=>
        simp only at K ⊢
        rw[a6,J6 a4] at K
        let⟨Z,ac⟩:=IH (ops:=ops) (T:=T) (d:=U.dst) (v:=u) (o:=oi) (aq i oi hi) a5
        exact a0 _ _ _ a8 bb a9 a7 ce (by rw[ac];exact hw) (λal s2 az am=>by unfold Yl;rw[Z];exact(aw al s2 az (by rw[cc] at am;exact am)).out) K
       | skip=>
        simp only at K ⊢
        rw[a6,J6 a4] at K
        let⟨Z,ac⟩:=IH (ops:=ops) (T:=T) (d:=U.dst) (v:=undef) (o:=oi) (aq i oi hi) a5
        exact a0 _ _ _ a8 bb a9 a7 ce (by rw[ac];exact hw) (λal s2 az am=>by unfold Yl;rw[Z];exact(aw al s2 az (by rw[cc] at am;exact am)).out) K
       | enter f args=>
        obtain⟨R,dd,dj⟩:=K
        refine⟨R,dd,λu ea hu=>?_⟩
        let⟨ci,r1,r2⟩:=dj u ea hu
        refine⟨ci,r1,?_⟩
        rw[a6,J6 a4] at r2
        let⟨Z,ac⟩:=IH (ops:=ops) (T:=T) (d:=U.dst) (v:=u) (o:=oi) (aq i oi hi) a5
        exact a0 _ _ _ a8 bb a9 a7 ci (by rw[ac];exact hw) (λal s2 az am=>by unfold Yl;rw[Z];exact(aw al s2 az (λx o K=>am x o (r1 x o K))).out) r2
       | _=>exact K.elim)
end
section
variable (J:Judge P)(Q:Gs_)(b:Frame)(n:Nat)(ds:Ld_)(ops:Ao_)(k:Li_)(cs:Lf_)(m:Nat)(D:Nat->Bool)
def AT(fuel:Nat)(listed:Array Bool)(L:Env)(s:St):Prop:=∀T,Has n L T->JA J Q b ds ops k cs m D fuel listed T s
end
def DG:Nat->Bool:=λ_=>false
variable {D:Nat->Bool}{listed:Array Bool}
variable{tail:List Nat}
section
variable {b:Frame}{n m fuel:Nat}
theorem Rz(m:Nat)(D:Nat->Bool){id:Nat}(K:s.q=false)(hm:P.follows .mixedOrders=true)(O:(b.kind != .early)=true)(h:AT J Q b n ds ops k cs m D ops.size (Array.replicate ops.size false) L s):JL J Q b n L ds (.code (.region id ops true)::k) cs s:=
 VY K hm λt T U=>aL (by simpa using O) ops.size t _ T s (h T U)
theorem Zs{i:Nat}{v:Value}(hi:ops[i]?=some oi)(U:decide (i<m)=true)(Y:El ops m=true)(Z:Region.noSelect ops=true)(O:(!EM oi.op)=true)(ac:Jx ops listed i oi=true)(ag:Ih ops listed=true)(ai:(listed.size==ops.size)=true)(al:(Region.ready .any ops listed).contains i=true)(am:s.q=false)
  (hw:AY L ops oi=some true) (ap:Bo n oi.dst=true) (aq:∀ρ,FA L ρ->∀s',s'.q=false->(∀x o,(BA D s).E x=some o->s'.E x=some o)->Yl P oi ρ s' v)
  (h:AT J Q b n ds ops k cs m D fuel (Bf listed i) (Ay L oi.dst v) s):AT J Q b n ds ops k cs m D (fuel+1) listed L s:=λT K=>by
 refine JA.take (w:=true) (v:=v) hi (by simpa using U) Y Z (λc av=>by rw[av] at O;simp[EM] at O) fuel listed T s ac ag (by simpa using ai) (by simpa using al) am (Ck K hw) (λ_ s' aw ay=>aq _ K.GR s' aw ay) ?_
 exact h _ (K.put ap v)
theorem ZA{i:Nat}(hi:ops[i]?=some oi)(U:decide (i<m)=true)(Y:El ops m=true)(Z:Region.noSelect ops=true)(K:(!EM oi.op)=true)(ac:Jx ops listed i oi=true)(ag:Ih ops listed=true)(ai:(listed.size==ops.size)=true)(al:(Region.ready .any ops listed).contains i=true)(am:s.q=false)
  (hw:AY L ops oi=some false) (ap:Bo n oi.dst=true)
  (h:AT J Q b n ds ops k cs m D fuel (Bf listed i) (Ay L oi.dst undef) s):AT J Q b n ds ops k cs m D (fuel+1) listed L s:=λT O=>by
 refine JA.take (w:=false) (v:=undef) hi (by simpa using U) Y Z (λc aq=>by rw[aq] at K;simp[EM] at K) fuel listed T s ac ag (by simpa using ai) (by simpa using al) am (Ck O hw) (λe=>by cases e) ?_
 exact h _ (O.put ap undef)
theorem UF(ai:s.q=false)(al:Region.ready .any ops listed≠ [])
  (h:∀i∈Region.ready .any ops listed,∀o,ops[i]?=some o->(!EM o.op)=true/\Bo n o.dst=true/\∃w,AY L ops o=some w/\
   (w=false->AT J Q b n ds ops k cs m D fuel (Bf listed i) (Ay L o.dst undef) s)/\
   (w=true->∀ρ,FA L ρ->lp P (execOp ρ o) (BA D s) (λac s'=>match ac with
    | .value v=>AT J Q b n ds ops k cs m D fuel (Bf listed i) (Ay L o.dst v) (CB D s s')
    | .skip=>AT J Q b n ds ops k cs m D fuel (Bf listed i) (Ay L o.dst undef) (CB D s s')
    | .enter f args=>∃R,Fh J f args (CB D s s') R/\∀v K,R v K->K.q=false/\(∀x o,(BA D s).E x=some o->(BA D K).E x=some o)/\AT J Q b n ds ops k cs m D fuel (Bf listed i) (Ay L o.dst v) K
    | _=>False) (λ_ _=>False))):
  AT J Q b n ds ops k cs m D (fuel+1) listed L s:=λT O=>by
 refine .inr ⟨al,ai,λi hi o am=>?_⟩
 let⟨ag,U,w,hw,ap,aq⟩:=h i hi o am
 have Y:=Ck O hw
 refine⟨λc av=>by rw[av] at ag;simp[EM] at ag,λe=>?_,λe=>?_⟩
 .rw [e] at Y
  exact ap Y.symm _ (O.put U undef)
 .rw [e] at Y;refine EI _ (aq Y.symm _ O.GR) ?_ (λ_ _ h=>h);intro ac s' Z;cases ac with
  | value v=>exact Z _ (O.put U v)
  | skip=>exact Z _ (O.put U undef)
  | enter f args=>
   obtain⟨R,aw,ay⟩:=Z;exact⟨R,aw,λv K az=>let ⟨a,b,c⟩:=ay v K az;⟨a,b,c _ (O.put U v)⟩⟩
  | _=>exact Z.elim
theorem AT.one{i:Nat}{o:Oper}(ac:s.q=false)(Y:Region.ready .any ops listed=[i])(hi:ops[i]?=some o)(O:(!EM o.op&&Bo n o.dst)=true)(hw:AY L ops o=some true)
  (h:∀ρ,FA L ρ->lp P (execOp ρ o) (BA D s) (λag s'=>match ag with
    | .value v=>AT J Q b n ds ops k cs m D fuel (Bf listed i) (Ay L o.dst v) (CB D s s')
    | .skip=>AT J Q b n ds ops k cs m D fuel (Bf listed i) (Ay L o.dst undef) (CB D s s')
    | .enter f args=>∃R,Fh J f args (CB D s s') R/\∀v K,R v K->K.q=false/\(∀x o,(BA D s).E x=some o->(BA D K).E x=some o)/\AT J Q b n ds ops k cs m D fuel (Bf listed i) (Ay L o.dst v) K
    | _=>False) (λ_ _=>False)):
  AT J Q b n ds ops k cs m D (fuel+1) listed L s:=by
 simp only[gQ] at O;refine UF ac (by rw[Y];simp) λj U o' Z=>?_;rw[Y] at U;simp at U;subst U;obtain rfl:o'=o:=by rw[hi] at Z;exact(f5 Z).symm
 exact⟨O.1,O.2,true,hw,λe=>(by cases e),λ_=>h⟩
theorem AT.call{i:Nat}{d:Option Tmp}{f:FuncId}{args:Array Operand}{ty:TypeId}{p:String}{af:Ae_}{g:On_}(U:s.q=false)(Y:Region.ready .any ops listed=[i])
  (Z:ops[i]?=some ⟨d,.call ⟨.value (.func f),args,ats⟩,ty,p,af,g⟩) (ac:Bo n d=true) (hw:AY L ops ⟨d,.call ⟨.value (.func f),args,ats⟩,ty,p,af,g⟩=some true) (hb:Ef P f=true) (ag:evs L args.toList=some vs)
  (ai:Fh J f vs.toArray s R) (h:∀v K,R v K->K.q=false/\(∀x o,(BA D s).E x=some o->(BA D K).E x=some o)/\AT J Q b n ds ops k cs m D fuel (Bf listed i) (Ay L d v) K):
  AT J Q b n ds ops k cs m D (fuel+1) listed L s:=by
 refine AT.one U Y Z (by simp[EM,ac]) hw λρ O=>?_;have al:args.map ρ=vs.toArray:=by
  rw[← G7 O ag];apply qS;simp
 have am:ρ (.func f)=.func (.func f) #[] #[]:=O _ _ V;simp only[execOp,resolve,bind,Sem.bind,Deferred.ofValue,am,pure,invoke];have e: #[]++args.map ρ++ #[]=vs.toArray:=by rw[al];simp
 rw[e];refine J4 hb ?_;rw[Mo];exact⟨R,ai,h⟩
theorem AT.leaf(K:SF m listed=true)(hgo:∀t,Region.linearise.go .any ops (fuel+1) t listed []=tail)(h:JL J Q b n L ds (.inRegion ops tail::k) cs s):AT J Q b n ds ops k cs m D (fuel+1) listed L s:=λT O=>
 .inl ⟨K,λt=>by rw[hgo t];exact h T O⟩
theorem AT.fin(K:Region.ready .any ops listed=[])(h:JL J Q b n L ds k cs s):AT J Q b n ds ops k cs m D 0 listed L s:=λT O=>⟨K,JL.done h T O⟩
theorem gz{listed:Array Bool}{i:Nat}(K:Region.ready .any ops listed=[i])(h:∀t,Region.linearise.go .any ops sz t (Bf listed i) []=tail)(t:Nat):Region.linearise.go .any ops (sz+1) t listed []=i::tail:=by
 simp only[Region.linearise.go];change (match(Region.ready .any ops listed)[t%(Region.ready .any ops listed).length]? with
  | some i=>Region.linearise.go .any ops sz (t/(Region.ready .any ops listed).length) (listed.setIfInBounds i true) [i]
  | none=>[].reverse)=_
 rw[K];simp only[qU,Nat.mod_one,qD];rw[linearise_go_acc];have:=h (t/1);unfold Bf at this;rw[this];rfl
theorem bm{i:Nat}{rest:List Nat}{d:Option Tmp}{f:FuncId}{args:Array Operand}{ty:TypeId}{p:String}{af:Ae_}{g:On_}
  (U:ops[i]?=some ⟨d,.call ⟨.value (.func f),args,ats⟩,ty,p,af,g⟩) (hw:AY L ops ⟨d,.call ⟨.value (.func f),args,ats⟩,ty,p,af,g⟩=some true) (K:((b.kind != .early)&&Bo n d)=true) (hb:Ef P f=true)
  (Y:evs L args.toList=some vs) (Z:Fh J f vs.toArray s R) (ac:∀v s',R v s'->JL J Q b n (Ay L d v) ds (.inRegion ops rest::k) cs s'):
  JL J Q b n L ds (.inRegion ops (i::rest)::k) cs s:=λT O=>by
 simp only[gQ] at K
 have ag:args.map (BL T)=vs.toArray:=by
  rw[← G7 O.GR Y];apply qS;simp
 refine Judge.oper U (Ck O hw) (by simpa using K.1) (.inr λc ai=>by cases ai) ?_;have hd:lp P (execOp (BL T) ⟨d,.call ⟨.value (.func f),args,ats⟩,ty,p,af,g⟩) s (upon J Q b T ds ops i rest k cs d) (MO J Q b T ds ops i rest k cs):=by
  simp only[execOp,resolve,bind,Sem.bind,Deferred.ofValue,BL,pure,invoke];have e: #[]++args.map (BL T)++ #[]=vs.toArray:=by rw[ag];simp
  rw[e];refine J4 hb (Z Q _ cs λv s' al=>?_);rw[G6 (o:=⟨d,.call ⟨.value (.func f),args,ats⟩,ty,p,af,g⟩) _ _ _ _ _ U];exact ac v s' al _ (O.put K.2 v)
 exact hd
theorem Fh.enter{f:FuncId}{c:Code}(Y:P.funcs[f]?=some fn)(hb:fn.body=some c)(ai:vs.length<=fn.ntmps)
  (h:∀(Q:Gs_) (K:Frame) (cs:Lf_),(∀v s',R v s'->J.ok Q (G (K.finish v) cs) s')->JL J Q (base f) fn.ntmps (GQ 0 vs) [] [.code c] (K::cs) s):Fh J f vs.toArray s R:=λQ K cs Z=>by
 have he:Frame.enter P f vs.toArray .normal=fr (base f) (vs.toArray++Array.replicate (fn.ntmps - vs.length) undef) [] [.code c]:=by
  simp[Frame.enter,fr,Y,hb,base];rfl
 rw[he];refine h Q K cs Z _ ⟨by simp;omega,λt v ac=>?_⟩;let⟨_,O⟩:=KF ac;have ag:t<vs.length:=by
  rcases mt t vs.length with U | U;exact U;simp at O;have:=(fx.1 O).1;omega
 rw[pd,qC (by simpa using ag)];simp at O;simp[O]
end
variable {E':LH}{B0:List (Nat×Obj)}
variable{blk:List (Nat×Obj)}
section
variable {b:Frame}{n:Nat}
theorem VA(O:s.q=false)(h:(∃w,Fits s w)->JL J Q b n L ds k cs s):JL J Q b n L ds k cs s:=λT U=>by
 by_cases K:∃w,Fits s w;exact h K T U;exact J.step ⟨V,λw f=>absurd ⟨w,f⟩ K,λe=>by subst e;cases O⟩
theorem TP{x:Nat}:∀{B:List (Nat×Obj)},(∃p∈B,p.1=x)->Bn B H x≠none
 | [],⟨p,K,_⟩=>by cases K
 | (c,o)::B,⟨p,K,e⟩=>by
  simp only[Bn]
  split;simp;rename_i O;rcases iO.1 K with q | q;subst q;exact absurd e.symm O;exact TP ⟨p,q,e⟩
theorem Nd.grow(U:Nd E H B)(hd:∀x,E' x≠none->Bn B H x=none):Nd E' H B:=by
 have key:∀{C:List (Nat×Obj)},Nd E H C->(∀p∈C,p∈B)->Nd E' H C:=by
  intro C
  induction C with
  | nil=>intro _ _;trivial
  | cons p C Y=>
   obtain⟨c,o⟩:=p;intro hC O;refine⟨?_,hC.2.1,hC.2.2.1,Y hC.2.2.2 λp K=>O p (f7 _ K)⟩;cases Z:E' c with
   | none=>rfl
   | some u=>exact absurd (hd c (by rw[Z];simp)) (TP ⟨(c,o),O _ (by simp),rfl⟩)
 exact key U λp K=>K
def QB(E:LH)(sz:Nat)(v:Value)(n:Nat)(xs:Lv_):Prop:=
 ∃a c,v=.slice a n c/\n<=c/\xs.length=n*sz/\(n=0∨∃bk off f e fr,a=some ⟨bk,off,none⟩/\E bk=some (.cells f e fr)/\∀j w,xs[j]?=some w->f[off+j]?=some w)
theorem QB.nil:QB E sz (.slice none 0 0) 0 []:=⟨none,0,V,no _,by simp,.inl V⟩
def GS(e:TypeId)(sz:Nat)(a:Option Addr)(l c:Nat)(blk:List (Nat×Obj))(xs:Lv_):Prop:=
 (a=none/\l=0/\c=0/\blk=[]/\xs=[])∨∃bk f,a=some ⟨bk,0,none⟩/\blk=[(bk,.cells f e (0,0))]/\f.size=c*sz/\l<=c/\xs=f.toList.take (l*sz)
theorem GS.nil{e:TypeId}:GS e sz none 0 0 [] []:=.inl ⟨V,V,V,V,V⟩
theorem GS.length{e:TypeId}{a:Option Addr}{c:Nat}(h:GS e sz a l c blk xs):xs.length=l*sz:=by
 rcases h with⟨_,rfl,_,_,rfl⟩ | ⟨bk,f,_,_,K,O,rfl⟩;simp;have:l*sz<=c*sz:=qi _ O;simp[K,ra this]
theorem XQ{t e:TypeId}{v:Value}{Q:Value->St->Prop}{z:Value}(O:P.underlying t=some (.slice e))(U:Bp P e=some v.cells.size)(Y:zeroOf P e=some z)(al:z.cells.size=v.cells.size)(am:0<v.cells.size)(ap:v.cells.size<=64)
  (Z:Nd E H B) (k:∀r,Nd E H (B++ [(r,.cells v.cells e (0,0))])->Q (.slice (some ⟨r,0,none⟩) 1 1) (mk E H (B++ [(r,.cells v.cells e (0,0))]))):lp P (Instr.buildSlice t 1 #[(0,v)]) (mk E H B) Q X:=by
 unfold Instr.buildSlice;refine Az _ _ (CG O ?_);refine Az _ _ (Fp U ?_);rw[d9 (by omega),d9 (by omega)];refine Az (x:=zeroValue e) _ (H8 Y ?_);have ac:Instr.fill (λi=>some (i*v.cells.size,v.cells.size)) ((Array.range (1*v.cells.size)).map λi=>z.cells[i%z.cells.size]!) [(0,v)]=some v.cells:=by
  simp only[Instr.fill,Array.size_map,Array.size_range,Nat.one_mul,rl];rw[d9 (by simp)];congr 1;apply qm;intro j;have key:∀(l:Lv_) (st:Nat) (c:Av_),st+l.length<=c.size->∀j,(List.foldl (λcs (p:Value×Nat)=>cs.setIfInBounds (0+p.2) p.1) c (l.zipIdx st))[j]?=if st<=j/\j<st+l.length then l[j - st]? else c[j]? :=by
   intro l
   induction l with
   | nil=>intro st c _ j;simp;omega
   | cons x l ag=>
    intro st c aq j;simp only[td,rq,pM] at*;rw[ag (st+1) _ (by simp;omega) j];simp only[qZ];by_cases ai:j=st;subst ai;rw[d9 (by omega),eS (by omega)];rw[rT,qD,pq (by omega)]
    .by_cases e2:st+1<=j/\j<st+1+l.length
     .rw [eS e2,eS (by omega)];have:j - st=(j - (st+1))+1:=by omega
      rw[this];simp
     .rw [d9 e2,d9 (by omega),pe (by omega)]
  have:=key v.cells.toList 0 ((Array.range v.cells.size).map λi=>z.cells[i%z.cells.size]!) (by simp) j;rw[← Array.foldl_toList,Array.toList_zipIdx,this];by_cases K:j<v.cells.size;simp[K];simp[K]
 rw[IF];simp only[ac];exact Az _ _ (J8 Z k)
end
variable{d1:Tmp}{t1:TypeId}
section
variable {b:Frame}{n:Nat}
theorem Nm{ρ:Operand->Value}{d:Option Tmp}{x y:Operand}{ty:TypeId}{p:String}{af:Ae_}{g:On_}:
  execOp ρ ⟨d,.call ⟨.builtin .append,#[x,y],ats⟩,ty,p,af,g⟩=(do pure (Next.value (← Builtin.append_ ats ty #[ρ x,ρ y]))):=by
 simp[execOp,resolve,invoke,builtin,bind,Sem.bind,pure]
theorem XU{ρ:Operand->Value}{d:Option Tmp}{y:Operand}{t ty:TypeId}{p:String}{af:Ae_}{g:On_}:
  execOp ρ ⟨d,.buildSlice t 1 #[(0,y)],ty,p,af,g⟩=(do pure (Next.value (← Instr.buildSlice t 1 #[(0,ρ y)]))):=by
 simp[execOp]
theorem ga{L:Env}{w:Value}:ev (Ay L (some d1) w) (.tmp d1)=some w:=by
 simp[Ay,ev,look]
theorem IQ(l r:List α)(x y:α):(l++x::r).set l.length y=l++y::r:=by simp
theorem Lh{e t:TypeId}{am c m:Nat}{a:Option Addr}{i:Nat}{rest:List Nat}{d:Option Tmp}{x y:Operand}{ty:TypeId}{p:String}{af:Ae_}{g:On_}{z:Value}{B1:List (Nat×Obj)}
  (a3:ops[i]?=some ⟨d,.call ⟨.builtin .append,#[x,y],ats⟩,ty,p,af,g⟩) (hw:AY L ops ⟨d,.call ⟨.builtin .append,#[x,y],ats⟩,ty,p,af,g⟩=some true) (a4:BU b n ⟨d,.call ⟨.builtin .append,#[x,y],ats⟩,ty,p,af,g⟩=true)
  (a5:ev L x=some (.slice a l c)) (a6:ev L y=some (.slice ax m cx)) (a7:ats[0]?=some t) (a8:ats[1]?=some t1) (a9:P.underlying t=some (.slice e)) (bb:P.underlying t1=some (.slice e)) (be:Bp P e=some sz) (hb:FY P e=some am) (bi:zeroOf P e=some z) (bn:z.cells.size=sz)
  (bo:0<am) (bv:am<=64) (b6:0<m) (bw:l+m<=2^40) (bx:∀w∈ys,C5 w=true) (ap:GS e sz a l c blk xs) (bz:Nd E H (B0++blk++B1)) (b0:Ik (mk E H (B0++blk++B1)) (.slice ax m cx) sz ys)
  (h:∀a1 ac aq,GS e sz a1 (l+m) ac aq (xs++ys)->Nd E H (B0++aq)->JL J Q b n (Ay L d (.slice a1 (l+m) ac)) ds (.inRegion ops rest::k) cs (mk E H (B0++aq))):
  JL J Q b n L ds (.inRegion ops (i::rest)::k) cs (mk E H (B0++blk++B1)):=by
 refine JL.op a3 hw a4 λρ a2=>?_;rw[Nm,a2 x _ a5,a2 y _ a6];have b1:Ql (B0++blk++B1) B0.length e sz a l c xs:=by
  rcases ap with⟨O,Z,ag,av,ai⟩ | ⟨bk,f,O,Z,ag,av,ai⟩;exact .inl ⟨O,Z,ag,ai⟩;refine .inr ⟨bk,f,O,?_,ag,av,ai⟩;subst Z;simp
 have hlen:=ap.length;refine Az _ _ (Re (pl:=B0.length) a7 a8 bb a9 be hb bi bn bz b1 b0 bx bo bw bv ?_ ?_ ?_)
 ·
  intro bk f K al ca cc b2 aw ay Y;rcases ap with⟨O,_⟩ | ⟨U,f0,O,Z,ag,av,ai⟩;rw[O] at al;cases al
  .subst Z;have b3:U=bk:=by rw[O] at al;simpa using al
   subst b3;have b4:(B0++ [(U,Obj.cells f0 e (0,0))]++B1).set B0.length (U,.cells K e (0,0))=B0++ [(U,.cells K e (0,0))]++B1:=by
    rw[pF,pF];exact IQ _ _ _ _
   rw[b4] at Y ⊢;have az:Nd E H (B0++ [(U,.cells K e (0,0))]):=Nd.left Y;refine JL.drop (B0++ [(U,.cells K e (0,0))]) (λp a0=>?_) Y (h a c _ (.inr ⟨U,K,O,V,aw,b2,ay.symm⟩) az);exact pS.1 (p9 _ a0)
 .intro _ hm;omega
 ·
  intro r K ac b5 aw ay Y;have az:Nd E H (B0++ [(r,.cells K e (0,0))]):=Nd.pick Y;refine JL.drop (B0++ [(r,.cells K e (0,0))]) (λp a0=>?_) Y (h (some ⟨r,0,none⟩) ac _ (.inr ⟨r,K,V,V,aw,b5,ay.symm⟩) az);refine pS.1 ?_;rcases pg.1 a0 with q | q;simp[q];exact qd _ q
 where
  Nd.left {E H : LH}{A C : List (Nat × Obj)}(h : Nd E H (A ++ C)) : Nd E H A :=by
    induction A with
    | nil =>trivial
    | cons p A ih =>
      obtain ⟨c, o⟩ :=p
      obtain ⟨h1, h2, h3, h4⟩ :=h
      exact ⟨h1, h2, λq hq =>h3 q (p9 _ hq), ih h4⟩
  Nd.pick {E H : LH}{A C F : List (Nat × Obj)}{x : Nat × Obj}(h : Nd E H (A ++ C ++ F ++ [x])) : Nd E H (A ++ [x]) :=by
    induction A with
    | nil =>
      have : ∀ (D : List (Nat × Obj)), Nd E H (D ++ [x]) -> Nd E H [x] :=by
        intro D
        induction D with
        | nil =>exact λh =>h
        | cons p D ih =>obtain ⟨c, o⟩ :=p; exact λh =>ih h.2.2.2
      exact this _ h
    | cons p A ih =>
      obtain ⟨c, o⟩ :=p
      obtain ⟨h1, h2, h3, h4⟩ :=h
      refine ⟨h1, h2, λq hq =>h3 q ?_, ih h4⟩
      rcases pg.1 hq with hq | hq
      . simp[hq]
      . exact qd _ hq
theorem ZU{e:TypeId}{v:Value}{A:List (Nat×Obj)}(K:v.cells.size=sz)(O:Nd E H (A++ [(r,.cells v.cells e (0,0))])):
  Ik (mk E H (A++ [(r,.cells v.cells e (0,0))])) (.slice (some ⟨r,0,none⟩) 1 1) sz v.cells.toList:=by
 refine⟨.inl V,by simp[K],no _,λj w U=>?_⟩;simp only[qZ];refine UD (i:=A.length) O (c:=v.cells) (e:=e) (f:=(0,0)) (by simp) ?_;simpa using U
theorem Yn{e t t2:TypeId}{id c:Nat}{a:Option Addr}{i ag:Nat}{rest:List Nat}{d:Option Tmp}{x y:Operand}{ty O:TypeId}{p U:String}{af Y:Ae_}{g g':On_}{z v:Value}
  (aw:ops[i]?=some ⟨some d1,.buildSlice t2 1 #[(0,y)],O,U,Y,g'⟩) (hw:AY L ops ⟨some d1,.buildSlice t2 1 #[(0,y)],O,U,Y,g'⟩=some true) (ay:BU b n ⟨some d1,.buildSlice t2 1 #[(0,y)],O,U,Y,g'⟩=true)
  (az:ops[ag]?=some ⟨d,.call ⟨.builtin .append,#[x,.tmp d1],ats⟩,ty,p,af,g⟩) (a0:∀w,AY (Ay L (some d1) w) ops ⟨d,.call ⟨.builtin .append,#[x,.tmp d1],ats⟩,ty,p,af,g⟩=some true) (a1:BU b n ⟨d,.call ⟨.builtin .append,#[x,.tmp d1],ats⟩,ty,p,af,g⟩=true)
  (a2:∀w,ev (Ay L (some d1) w) x=some (.slice a l c)) (a3:ev L y=some v) (a4:ats[0]?=some t) (a5:ats[1]?=some t1) (a6:P.underlying t=some (.slice e)) (a7:P.underlying t1=some (.slice e)) (a8:P.underlying t2=some (.slice e)) (ai:Bp P e=some sz) (hb:FY P e=some id) (al:zeroOf P e=some z) (am:z.cells.size=sz)
  (a9:0<id) (bb:id<=64) (Z:v.cells.size=sz) (bw:0<sz) (bx:sz<=64) (be:l+1<=2^40) (bi:∀w∈v.cells.toList,C5 w=true) (bn:GS e sz a l c blk xs) (bo:Nd E H (B0++blk))
  (h:∀w ap aq ac,GS e sz ap (l+1) aq ac (xs++v.cells.toList)->Nd E H (B0++ac)->JL J Q b n (Ay (Ay L (some d1) w) d (.slice ap (l+1) aq)) ds (.inRegion ops rest::k) cs (mk E H (B0++ac))):
  JL J Q b n L ds (.inRegion ops (i::ag::rest)::k) cs (mk E H (B0++blk)):=by
 refine JL.op aw hw ay λρ bv=>?_;rw[XU,bv y _ a3];refine Az _ _ (XQ (z:=z) (v:=v) a8 (by rw[Z];exact ai) al (by rw[Z];exact am) (by omega) (by omega) bo λr av=>?_);refine Lh (B1:=[(r,.cells v.cells e (0,0))]) (m:=1) (cx:=1) (ax:=some ⟨r,0,none⟩) (y:=.tmp d1) (x:=x) (ys:=v.cells.toList) (l:=l) (c:=c) (a:=a) (blk:=blk) (xs:=xs) az (a0 _) a1 (a2 _) ga a4 a5 a6 a7 ai hb al am a9 bb (by omega) be bi bn av ?_ (h _);exact ZU Z av
theorem Yf{e:TypeId}{c:Nat}{a:Option Addr}(Z:GS e sz a l c blk xs)(O:Nd E H (B0++blk))
  (h:∀E',Le E E'->QB E' sz (.slice a l c) l xs->Nd E' H B0->JL J Q b n L ds todo cs (mk E' H B0)):JL J Q b n L ds todo cs (mk E H (B0++blk)):=by
 rcases Z with⟨rfl,rfl,rfl,rfl,rfl⟩ | ⟨bk,f,rfl,rfl,ac,U,rfl⟩;simp only[pG] at O ⊢;exact h E (Le.refl _) .nil O
 .have ag:(B0++ [(bk,Obj.cells f e (0,0))])[B0.length]?=some (bk,Obj.cells f e (0,0)):=by simp
  refine JL.freeze B0.length O ag λE' hle ai Y=>?_;have al:(B0++ [(bk,Obj.cells f e (0,0))]).eraseIdx B0.length=B0:=by rw[q0 (no _)];simp
  rw[al] at Y ⊢;refine h E' hle ⟨_,c,V,U,?_,.inr ⟨bk,0,f,e,(0,0),V,ai,λj w K=>?_⟩⟩ Y;have:l*sz<=c*sz:=qi _ U;simp[ac,ra this];rw[qI] at K;split at K;simpa using K;cases K
end
abbrev iV(n:Int):Value:=.int .i64 n
variable {c:Nat}
section
variable {x:Operand}{a:Nat}
end
variable{K:TypeInfo}
theorem R2{P:Program}{t:TypeId}(h:P.types[t]?=some K):P.info? t=some K:=by
 have:=(f8.1 h).1;unfold Tables.info?;rw[eS this,h]
theorem A2{P:Program}{t:TypeId}(h:P.types[t]?=some K):Bp P t=some K.size:=by simp[Bp,R2 h]
theorem EG{P:Program}{t:TypeId}(h:P.types[t]?=some K):FY P t=some K.bytes:=by simp[FY,R2 h]
theorem DL{P:Program}{t:TypeId}(h:P.types[t]?=some K):zeroOf P t=K.zero:=by simp[zeroOf,R2 h]
def eK:TypeDesc->Bool | .struct _=>true | .array _ _=>true | _=>false
theorem Df{P:Program}{t:TypeId}{d:TypeDesc}(h:P.underlying t=some d):DJ P t=some (eK d):=by
 unfold DJ;rw[h];cases d<;>rfl
theorem Be{P:Program}{f:FuncId}(h:P.funcs[f]?=some fn)(hb:(!(fn.name== "runtime.NumGoroutine")&&fn.body.isSome)=true):Ef P f=true:=by
 simp only[Ef,h];exact hb
def W0(a:Nat):Nat->List Nat
 | 0=>[]
 | n+1=>W0 a n++(if a.testBit n then [n] else [])
abbrev Xv(a:Nat):List Nat:=W0 a 16
end Pal
namespace Pal
open Go Go.Conc
def At(E:LH)(bk o:Nat)(ws:Lv_):Prop:=∃f e fr,E bk=some (.cells f e fr)/\∀j w,ws[j]?=some w->f[o+j]?=some w
theorem At.M{E E':LH}{bk o:Nat}{ws:Lv_}(h:At E bk o ws)(hle:Le E E'):At E' bk o ws:=let ⟨f,e,fr,K,O⟩:=h;⟨f,e,fr,hle _ _ K,O⟩
variable{j:Nat}{w:Value}
theorem At.cell{E H:LH}{B:List (Nat×Obj)}{bk o:Nat}{ws:Lv_}(h:At E bk o ws)(K:ws[j]?=some w):(mk E H B).cell? ⟨bk,o+j,none⟩=some w:=
 let ⟨_,_,_,O,U⟩:=h;ZR O (U j w K)
theorem At.cells{E H:LH}{B:List (Nat×Obj)}{bk o:Nat}{ws:Lv_}(h:At E bk o ws):∀j v,ws[j]?=some v->(mk E H B).cell? (Addr.add ⟨bk,o,none⟩ j)=some v:=λj v K=>by
 rw[Ek rfl];exact h.cell K
variable {P:Program}{J:Judge P}{Q:Gs_}{ds:Ld_}{ops:Ao_}{k:Li_}{cs:Lf_}{L:Env}{s:St}{E E' H:LH}{B B0:List (Nat×Obj)}
variable {d:Option Tmp}{y:Operand}{t u ty e:TypeId}{p:String}{af:Ae_}{g:On_}{rest:List Nat}{kd:IntKind}
section
variable {b:Frame}{n:Nat}
variable {x:Operand}{v:Value}{i:Nat}
theorem JL.put(h:look L i=some v)(O:JL J Q b n (Ay L (some i) v) ds k cs s):JL J Q b n L ds k cs s:=λT K=>
 O T ⟨K.size,λt w e=>by
  simp only[Ay,look] at e
  split at e;rename_i U;subst U;cases e;exact K.at_ _ _ h
  .exact K.at_ _ _ e⟩
theorem Nt{q:Prop} [Decidable q] (h:look L i=some (.bool (decide q)))(O:q->JL J Q b n (Ay L (some i) (.bool true)) ds k cs s)(U:¬q->JL J Q b n (Ay L (some i) (.bool false)) ds k cs s):JL J Q b n L ds k cs s:=by
 by_cases K:q;refine JL.put (i:=i) (v:=.bool true) ?_ (O K);rw[h,qf K];refine JL.put (i:=i) (v:=.bool false) ?_ (U K);rw[h,p5 K]
theorem Ln{c:Bool}(h:look L i=some (.bool c))(K:c=true->JL J Q b n (Ay L (some i) (.bool true)) ds k cs s)(O:c=false->JL J Q b n (Ay L (some i) (.bool false)) ds k cs s):JL J Q b n L ds k cs s:=by
 cases c;exact JL.put h (O V);exact JL.put h (K V)
end
theorem Kh{P:Program}{s:St}{ρ:Operand->Value}{d:Option Tmp}{t ty ft:TypeId}{x:Operand}{p:String}{af:Ae_}{g:On_}{a:Addr}{O:Array Field}{i:Nat}{K:Field}(sz off:Nat)(U:P.underlying t=some (.struct O))(Y:Bp P ft=some (sz+1))(hi:O[i]?=some K)(Z:K.type=ft)(ac:K.offset=off)(ag:ρ x=.pointer (some a)):
  Yl P ⟨d,.fieldAddr t x i,ty,p,af,g⟩ ρ s (.pointer (some (a.add off))):=by
 subst Z ac;exact Yl.fieldAddr U hi Y ag
section
variable {b:Frame}{n:Nat}
variable {x:Operand}{v:Value}{i:Nat}
theorem At.SU{bk o:Nat}{ws:Lv_}(h:At E bk o ws)(K:∀x o,E x=some o->s.E x=some o)(O:ws[j]?=some w):s.cell? ⟨bk,o+j,none⟩=some w:=by
 obtain⟨f,e,fr,U,Y⟩:=h;unfold St.cell? St.get;rw[K _ _ U];exact Y j w O
theorem At.gm{bk o:Nat}{ws:Lv_}(h:At E bk o ws)(K:∀x o,E x=some o->s.E x=some o):∀j v,ws[j]?=some v->s.cell? (Addr.add ⟨bk,o,none⟩ j)=some v:=λj v O=>by
 rw[Ek rfl];exact h.SU K O
end
variable {listed:Array Bool}
section
variable {b:Frame}{n m fuel:Nat}
variable {x:Operand}{v:Value}{i:Nat}
end
variable {D:Nat->Bool}
section
variable {b:Frame}{n m fuel i:Nat}{v:Value}
theorem AT.put(h:look L i=some v)(O:AT J Q b n ds ops k cs m D fuel listed (Ay L (some i) v) s):AT J Q b n ds ops k cs m D fuel listed L s:=λT K=>
 O T ⟨K.size,λt w e=>by
  simp only[Ay,look] at e
  split at e;rename_i U;subst U;cases e;exact K.at_ _ _ h
  .exact K.at_ _ _ e⟩
theorem GI{q:Prop} [Decidable q] (h:look L i=some (.bool (decide q)))(O:q->AT J Q b n ds ops k cs m D fuel listed (Ay L (some i) (.bool true)) s)(U:¬q->AT J Q b n ds ops k cs m D fuel listed (Ay L (some i) (.bool false)) s):AT J Q b n ds ops k cs m D fuel listed L s:=by
 by_cases K:q;refine AT.put (i:=i) (v:=.bool true) ?_ (O K);rw[h,qf K];refine AT.put (i:=i) (v:=.bool false) ?_ (U K);rw[h,p5 K]
end
structure Rp (α:Type) where
 n:Nat
 r:LH->Lv_->α->Prop
 M:∀{E E':LH}{ws:Lv_}{x:α},Le E E'->r E ws x->r E' ws x
 len:∀{E:LH}{ws:Lv_}{x:α},r E ws x->ws.length=n
 one:∀{E:LH}{ws:Lv_}{x:α},r E ws x->∀w∈ws,C5 w=true
def rK(kd:IntKind):Rp Int:=⟨1,λ_ ws x=>ws=[.int kd x],λ_ h=>h,λh=>by subst h;rfl,λh w hw=>by subst h;simp at hw;subst hw;rfl⟩
abbrev rI:Rp Int:=rK .i64
def rN(kd:IntKind):Rp Nat:=⟨1,λ_ ws x=>ws=[.int kd ((x:Nat):Int)],λ_ h=>h,λh=>by subst h;rfl,λh w hw=>by subst h;simp at hw;subst hw;rfl⟩
def rB:Rp Bool:=⟨1,λ_ ws x=>ws=[.bool x],λ_ h=>h,λh=>by subst h;rfl,λh w hw=>by subst h;simp at hw;subst hw;rfl⟩
def rP{α β:Type}(p:Rp α)(q:Rp β):Rp (α×β):=⟨p.n+q.n,λE ws x=>∃U Y,ws=U++Y/\p.r E U x.1/\q.r E Y x.2,
 λhle ⟨a,b,h,K,O⟩=>⟨a,b,h,p.M hle K,q.M hle O⟩,λ⟨a,b,h,K,O⟩=>by subst h;rw[pA,p.len K,q.len O],
 λ⟨a,b,h,K,O⟩ w hw=>by
  subst h
  rcases pg.1 hw with hw | hw
  .exact p.one K w hw
  .exact q.one O w hw⟩
def Ap{α:Type}(p:Rp α)(E:LH)(a:Option Addr)(c:Nat)(xs:List α):Prop:=
 xs.length<=c/\((xs=[]/\∀ad:Addr,a=some ad->ad.spot=none∨c=0)∨∃bk off,a=some ⟨bk,off,none⟩/\∀(i:Nat) x,xs[i]?=some x->∃ws,p.r E ws x/\At E bk (off+i*p.n) ws)
variable{α:Type}{c:Nat}
theorem Ap.M{p:Rp α}{E E':LH}{a:Option Addr}{xs:List α}(h:Ap p E a c xs)(hle:Le E E'):Ap p E' a c xs:=
 ⟨h.1,h.2.imp id λ⟨bk,off,K,O⟩=>⟨bk,off,K,λi x U=>let ⟨ws,Y,Z⟩:=O i x U;⟨ws,p.M hle Y,Z.M hle⟩⟩⟩
theorem Ap.nil{p:Rp α}{E:LH}:Ap p E none c []:=⟨qc _,.inl ⟨V,λ_ h=>by cases h⟩⟩
def rL{α:Type}(p:Rp α):Rp (List α):=⟨1,λE ws xs=>∃a c,ws=[.slice a xs.length c]/\Ap p E a c xs,
 λhle ⟨a,c,h,K⟩=>⟨a,c,h,K.M hle⟩,λ⟨a,c,h,K⟩=>by subst h;rfl,λ⟨a,c,h,K⟩ w hw=>by subst h;simp at hw;subst hw;rfl⟩
def rV:Rp Value:=⟨1,λ_ ws x=>ws=[x]/\C5 x=true,λ_ h=>h,λh=>by rw[h.1];rfl,λh w hw=>by rw[h.1] at hw;simp at hw;subst hw;exact h.2⟩
def rA{α:Type}(k:Nat)(p:Rp α):Rp (List α):=⟨k*p.n,λE ws xs=>xs.length=k/\∃wss:List (Lv_),ws=wss.flatten/\wss.length=k/\∀(i:Nat) x us,xs[i]?=some x->wss[i]?=some us->p.r E us x,
 λhle ⟨U,wss,h,K,O⟩=>⟨U,wss,h,K,λi x us a b=>p.M hle (O i x us a b)⟩,
 λ{E ws xs} ⟨U,wss,h,K,O⟩=>by
  subst h
  have:∀(wss:List (Lv_)) (xs:List α),xs.length=wss.length->(∀(i:Nat) x us,xs[i]?=some x->wss[i]?=some us->p.r E us x)->wss.flatten.length=wss.length*p.n:=by
   intro wss
   induction wss with
   | nil=>intro xs _ _;simp
   | cons us wss Z=>
    intro xs Y h
    cases xs with
    | nil=>simp at Y
    | cons x xs=>
     rw[pY,pA,p.len (h 0 x us rfl rfl),Z xs (by simpa using Y) (λi y u a b=>h (i+1) y u a b),pM,qy,tf]
  rw[this wss xs (by omega) O,K],
 λ{E ws xs} ⟨U,wss,h,K,O⟩ w hw=>by
  subst h
  let⟨us,ac,hw⟩:=rg.1 hw
  let⟨i,hi⟩:=pS.1 ac
  have ag:i<xs.length:=by rw[U,← K];exact(fx.1 hi).1
  exact p.one (O i _ us (d6 ag) hi) w hw⟩
def ix{α:Type}(xs:List α)(i:Int):Option α:=if 0<=i then xs[i.toNat]? else none
theorem F8{xs:List α}{i:Int}{x:α}(h:ix xs i=some x):∃m:Nat,i=m/\xs[m]?=some x:=by
 unfold ix at h;split at h;exact⟨i.toNat,by omega,h⟩;cases h
def Au(x:Int):Option Int:=if -9223372036854775808<=x/\x<=9223372036854775807 then some x else none
theorem Mq{x y:Int}(h:Au x=some y):y=x/\ -9223372036854775808<=x/\x<=9223372036854775807:=by
 unfold Au at h;split at h;rename_i hb;exact⟨(f5 h).symm,hb⟩;cases h
variable{β:Type}
theorem bind_some{o:Option α}{f:α->Option β}{r:β}(h:o.bind f=some r):∃x,o=some x/\f x=some r:=by
 cases o with
 | none=>cases h
 | some x=>exact⟨x,rfl,h⟩
inductive Bj (S A:Type) where
 | more (s:S)
 | done (a:A)
def iter{S A:Type}(body:S->Option (Bj S A)):Nat->S->Option A
 | 0,_=>none
 | f+1,s=>match body s with
  | none=>none
  | some (.done a)=>some a
  | some (.more s')=>iter body f s'
variable{A:Type}
theorem Us{S:Type}{body:S->Option (Bj S A)}{f:Nat}{s:S}{a:A}(h:iter body (f+1) s=some a):∃st,body s=some st:=by
 simp only[iter] at h;cases hb:body s with
 | none=>rw[hb] at h;cases h
 | some st=>exact⟨st,rfl⟩
theorem Ud{S:Type}{body:S->Option (Bj S A)}{f:Nat}{s:S}{a K:A}(h:iter body (f+1) s=some a)(hb:body s=some (.done K)):K=a:=by
 simp only[iter,hb] at h;exact f5 h
theorem Un{S:Type}{body:S->Option (Bj S A)}{f:Nat}{s s':S}{a:A}(h:iter body (f+1) s=some a)(hb:body s=some (.more s')):iter body f s'=some a:=by
 simp only[iter,hb] at h;exact h
abbrev Seg:=List (Nat×Obj)
def Aj(E H:LH)(S:List Seg):St:=mk E H S.flatten
def Aq(E H:LH)(S:List Seg):Prop:=Nd E H S.flatten
theorem Nd.mem{E H:LH}:∀{B:List (Nat×Obj)}{b:Nat}{o:Obj},Nd E H B->(b,o)∈B->∃i:Nat,B[i]?=some (b,o):=λ_ h=>pS.1 h
theorem Nd.iff{E H:LH}:∀{B:List (Nat×Obj)},Nd E H B↔(B.map (·.1)).Nodup/\∀p∈B,E p.1=none/\H p.1=none
 | []=>by simp[Nd]
 | (b,o)::B=>by
  simp only[Nd,pW,rH,iO,forall_eq_or_imp,Nd.iff (B:=B),pO,not_exists,not_and]
  constructor;rintro⟨K,O,U,Y,Z⟩;exact⟨⟨U,Y⟩,⟨K,O⟩,Z⟩;rintro⟨⟨U,Y⟩,⟨K,O⟩,Z⟩;exact⟨K,O,U,Y,Z⟩
variable{B':List (Nat×Obj)}
theorem Nd.perm{E H:LH}{B:List (Nat×Obj)}(h:Nd E H B)(K:B.Perm B'):Nd E H B':=by
 rw[Nd.iff] at h ⊢;exact⟨(K.map _).nodup_iff.1 h.1,λp O=>h.2 p (K.mem_iff.2 O)⟩
theorem TO{E H:LH}{B:List (Nat×Obj)}(h:Nd E H B)(K:B.Perm B'):Bn B H=Bn B' H:=by
 funext x;by_cases O:∃p∈B,p.1=x;obtain⟨⟨b,o⟩,hm,rfl⟩:=O;let⟨i,hi⟩:=h.mem hm;let⟨j,U⟩:=(h.perm K).mem (K.mem_iff.1 hm);rw[Ka h hi,Ka (h.perm K) U]
 .have key:∀{C:List (Nat×Obj)},(∀p∈C,p.1≠x)->Bn C H x=H x:=by
   intro C
   induction C with
   | nil=>intro _;rfl
   | cons p C Y=>
    intro hC;obtain⟨c,u⟩:=p;have Z:x≠c:=λe=>hC (c,u) (by simp) e.symm;simp only[Bn,d9 Z];exact Y λp K=>hC p (f7 _ K)
  rw[key λp K e=>O ⟨p,K,e⟩,key λp ac e=>O ⟨p,K.mem_iff.2 ac,e⟩]
theorem FH{E H:LH}{B:List (Nat×Obj)}(h:Nd E H B)(K:B.Perm B'):mk E H B=mk E H B':=by unfold mk;rw[TO h K]
variable{seg seg':Seg}
theorem Ds{S:List Seg}(h:S[j]?=some seg):S.flatten.Perm ((S.set j []).flatten++seg)/\(S.set j seg').flatten.Perm ((S.set j []).flatten++seg'):=by
 induction S generalizing j with
 | nil=>simp at h
 | cons x S K=>
  cases j with
  | zero=>
   simp at h;subst h;simp only[rj,pY,qr];exact⟨pr,pr⟩
  | succ j=>
   simp at h;let⟨O,U⟩:=K h;simp only[sk,pY,pF];exact⟨O.append_left x,U.append_left x⟩
theorem HI{E H:LH}{S:List Seg}(K:Aq E H S)(h:S[j]?=some seg):Aj E H S=mk E H ((S.set j []).flatten++seg)/\Nd E H ((S.set j []).flatten++seg):=
 ⟨FH K (Ds (seg':=seg) h).1,Nd.perm K (Ds (seg':=seg) h).1⟩
theorem Kg{E H:LH}{S:List Seg}(h:S[j]?=some seg)(K:Nd E H ((S.set j []).flatten++seg')):mk E H ((S.set j []).flatten++seg')=Aj E H (S.set j seg')/\Aq E H (S.set j seg'):=
 ⟨FH K (Ds h).2.symm,Nd.perm K (Ds h).2.symm⟩
theorem GJ(S:List Seg)(seg:Seg):(S++ [seg]).flatten=S.flatten++seg:=by simp
theorem F4{E H:LH}{S:List Seg}(K:Nd E H (S.flatten++seg)):mk E H (S.flatten++seg)=Aj E H (S++ [seg])/\Aq E H (S++ [seg]):=by
 unfold Aj Aq;rw[GJ];exact⟨V,K⟩
theorem DU{E H:LH}{S:List Seg}{i bk:Nat}{o:Obj}(K:Aq E H S)(O:S[j]?=some seg)(hi:seg[i]?=some (bk,o)):(Aj E H S).get bk=some o:=by
 have hm:(bk,o)∈S.flatten:=rg.2 ⟨seg,pC O,pC hi⟩;let⟨Y,U⟩:=K.mem hm;exact Q3 K U
variable{off:Nat}
theorem B6{E H:LH}{S:List Seg}{bk:Nat}{c:Av_}{e:TypeId}{f:Nat×Nat}{v:Value}(K:Aq E H S)(O:S[j]?=some ((bk,.cells c e f)::seg))(U:c[off]?=some v):(Aj E H S).cell? ⟨bk,off,none⟩=some v:=by
 unfold St.cell?;rw[DU (i:=0) K O rfl];exact U
theorem Ym{E H:LH}{S:List Seg}{bk:Nat}{c:Av_}{e:TypeId}{f:Nat×Nat}{vs:Lv_}(K:Aq E H S)(O:S[j]?=some ((bk,.cells c e f)::seg))(U:∀i v,vs[i]?=some v->c[off+i]?=some v):∀i v,vs[i]?=some v->(Aj E H S).cell? (Addr.add ⟨bk,off,none⟩ i)=some v:=λi v hi=>by
 rw[Ek rfl];exact B6 K O (U i v hi)
def OL{α:Type}(e:TypeId)(p:Rp α)(E:LH)(a:Option Addr)(c:Nat)(seg:Seg)(xs:List α):Prop:=
 ∃wss:List (Lv_),GS e p.n a xs.length c seg wss.flatten/\wss.length=xs.length/\∀(i:Nat) x ws,xs[i]?=some x->wss[i]?=some ws->p.r E ws x
theorem OL.M{e:TypeId}{p:Rp α}{E E':LH}{a:Option Addr}{xs:List α}(h:OL e p E a c seg xs)(hle:Le E E'):OL e p E' a c seg xs:=
 let ⟨wss,K,O,U⟩:=h;⟨wss,K,O,λi x ws Y hw=>p.M hle (U i x ws Y hw)⟩
theorem OL.nil{e:TypeId}{p:Rp α}{E:LH}:OL e p E none 0 [] []:=⟨[],GS.nil,V,λi x ws K=>by simp at K⟩
variable{wss:List (Lv_)}
theorem IN{p:Rp α}{E:LH}{xs:List α}(K:wss.length=xs.length)(h:∀(i:Nat) x ws,xs[i]?=some x->wss[i]?=some ws->p.r E ws x):∀ws∈wss,ws.length=p.n:=λws hw=>by
 let⟨i,hi⟩:=pS.1 hw
 have O:i<xs.length:=by rw[← K];exact(fx.1 hi).1
 exact p.len (h i _ ws (d6 O) hi)
theorem Li{α:Type}{n:Nat}:∀{wss:List (List α)},(∀ws∈wss,ws.length=n)->∀{i:Nat}{ws:List α},wss[i]?=some ws->∀j w,ws[j]?=some w->wss.flatten[i*n+j]?=some w
 | [],_,_,_,h,_,_,_=>by simp at h
 | us::wss,O,0,ws,h,j,w,K=>by
  simp at h;subst h
  have:j<us.length:=(fx.1 K).1
  simp only[pY,rl,qZ]
  rw[po this];exact K
 | us::wss,O,i+1,ws,h,j,w,K=>by
  simp at h
  have hu:us.length=n:=O us (by simp)
  simp only[pY]
  rw[pf (by rw[hu,qy];omega)]
  have e:(i+1)*n+j - us.length=i*n+j:=by rw[hu,qy];omega
  rw[e];exact Li (λws hw=>O ws (f7 _ hw)) h j w K
variable {ρ:Operand->Value}{z:Operand}{kd':IntKind}{m':Int}
variable{r:Int}{ps:Array (Nat×Operand)}
section
variable {x:Operand}{v:Value}{m:Int}{a b:Nat}
theorem M5{a:Nat}:IntKind.u64.wrap (a:Int)=((a%2^64:Nat):Int):=by
 simp only[IntKind.wrap,IntKind.bits,IntKind.signed];simp
theorem da(K:ρ x=.int .u64 (a:Int))(O:ρ y=.int .u64 (b:Int)):Yl P ⟨d,.binOp .add t x y u,ty,p,af,g⟩ ρ s (.int .u64 (((a+b)%2^64:Nat):Int)):=by
 have h:=Yl.add (P:=P) (s:=s) (d:=d) (t:=t) (u:=u) (ty:=ty) (p:=p) (af:=af) (g:=g) K O;rw[show((a:Int)+(b:Int))=((a+b:Nat):Int) by omega,M5] at h;exact h
theorem PF(K:ρ x=.int .u64 (a:Int))(O:ρ y=.int .u64 (b:Int)):Yl P ⟨d,.binOp .mul t x y u,ty,p,af,g⟩ ρ s (.int .u64 (((a*b)%2^64:Nat):Int)):=by
 have h:=Yl.mul (P:=P) (s:=s) (d:=d) (t:=t) (u:=u) (ty:=ty) (p:=p) (af:=af) (g:=g) K O;rw[show((a:Int)*(b:Int))=((a*b:Nat):Int) by rw[Int.natCast_mul],M5] at h;exact h
theorem Lt(K:ρ x=.int .u64 (a:Int))(O:ρ y=.int .u64 (b:Int)):Yl P ⟨d,.binOp .xor t x y u,ty,p,af,g⟩ ρ s (.int .u64 (((a ^^^ b)%2^64:Nat):Int)):=by
 have h:=Yl.xor (P:=P) (s:=s) (d:=d) (t:=t) (u:=u) (ty:=ty) (p:=p) (af:=af) (g:=g) K O;have e:(BitVec.ofInt IntKind.u64.bits (a:Int) ^^^ BitVec.ofInt IntKind.u64.bits (b:Int)).toNat=(a ^^^ b)%2^64:=by
  rw[Nat.xor_mod_two_pow];rw[r0,r0];show(BitVec.ofNat 64 a ^^^ BitVec.ofNat 64 b).toNat=_;rw[BitVec.toNat_xor,su,su]
 rw[e,M5,Nat.mod_mod] at h;exact h
theorem b7(K:ρ x=.int .u64 (a:Int))(O:ρ y=.int .u64 (b:Int))(U:b≠0):Yl P ⟨d,.binOp .rem t x y u,ty,p,af,g⟩ ρ s (.int .u64 ((a%b:Nat):Int)):=by
 have h:=Yl.rem (P:=P) (s:=s) (d:=d) (t:=t) (u:=u) (ty:=ty) (p:=p) (af:=af) (g:=g) K O (by omega);rw[show(a:Int).tmod (b:Int)=((a%b:Nat):Int) from rfl] at h;exact h
theorem Lz(c:Nat)(K:ρ x=.int .u64 (a:Int))(O:ρ y=.int .u64 (c:Int))(U:c<=64):Yl P ⟨d,.binOp .shr t x y u,ty,p,af,g⟩ ρ s (.int .u64 ((a>>>c:Nat):Int)):=by
 have h:=Yl.shr (P:=P) (s:=s) (d:=d) (t:=t) (u:=u) (ty:=ty) (p:=p) (af:=af) (g:=g) K O (by omega);have e:min (c:Int).toNat IntKind.u64.bits=c:=by simp[IntKind.bits];omega
 rw[e,rr _ (Int.pow_nonneg (by decide))] at h;have e2:(a:Int)/2^c=((a>>>c:Nat):Int):=by rw[ry,Int.natCast_ediv];rfl
 rw[e2] at h;exact h
def Cz(m:Int):Nat:=(m%2^64).toNat
def JM(a:Nat):Int:=IntKind.i64.wrap (a:Int)
theorem Yl.Cz(K:P.underlying t=some (.int .i64))(hu:P.underlying u=some (.int .u64))(O:ρ x=iV m):Yl P ⟨d,.convert t u x,ty,p,af,g⟩ ρ s (.int .u64 ((Cz m:Nat):Int)):=by
 have h:=FI (P:=P) (s:=s) (d:=d) (ty:=ty) (p:=p) (af:=af) (g:=g) K hu O
 have e:IntKind.u64.wrap m=((Pal.Cz m:Nat):Int):=by
  unfold Pal.Cz;simp only[IntKind.wrap,IntKind.bits,IntKind.signed];simp;omega
 rw[e] at h;exact h
theorem Wo(K:P.underlying t=some (.int .u64))(hu:P.underlying u=some (.int .i64))(O:ρ x=.int .u64 (a:Int)):Yl P ⟨d,.convert t u x,ty,p,af,g⟩ ρ s (iV (JM a)):=
 FI (P:=P) (s:=s) (d:=d) (ty:=ty) (p:=p) (af:=af) (g:=g) K hu O
theorem DO(K:ρ x=iV m)(O:ρ y=iV m')(h:Au (m+m')=some r):Yl P ⟨d,.binOp .add t x y u,ty,p,af,g⟩ ρ s (iV r):=by
 obtain⟨rfl,hb⟩:=Mq h;exact dz K O hb
theorem EF(K:ρ x=iV m)(O:ρ y=iV m')(h:Au (m - m')=some r):Yl P ⟨d,.binOp .sub t x y u,ty,p,af,g⟩ ρ s (iV r):=by
 obtain⟨rfl,hb⟩:=Mq h;exact dg K O hb
theorem Lw(K:ρ x=iV m)(O:ρ y=iV m')(h:Au (m*m')=some r):Yl P ⟨d,.binOp .mul t x y u,ty,p,af,g⟩ ρ s (iV r):=by
 obtain⟨rfl,hb⟩:=Mq h;exact dc K O hb
theorem Ie(K:ρ x=iV m)(h:Au (-m)=some r):Yl P ⟨d,.unOp .neg t x,ty,p,af,g⟩ ρ s (iV r):=by
 obtain⟨rfl,hb⟩:=Mq h;exact du K hb
theorem Ic(K:ρ x=.int kd m)(O:ρ y=.int kd m'):Yl P ⟨d,.binOp .neq t x y u,ty,p,af,g⟩ ρ s (.bool (decide (m≠m'))):=by
 have h:=Yl.neq (P:=P) (s:=s) (d:=d) (t:=t) (u:=u) (ty:=ty) (p:=p) (af:=af) (g:=g) K O;simpa using h
theorem KO{q:Prop} [Decidable q] (K:ρ x=.bool (decide q)):Yl P ⟨d,.unOp .not t x,ty,p,af,g⟩ ρ s (.bool (decide (¬q))):=by
 have h:=Yl.not (P:=P) (s:=s) (d:=d) (t:=t) (ty:=ty) (p:=p) (af:=af) (g:=g) K;simpa using h
theorem Q6:execOp ρ ⟨d,.build t ps,ty,p,af,g⟩=(do pure (Next.value (← Instr.build t (ps.map λ(j,x)=>(j,ρ x))))):=by
 simp only[execOp]
theorem Yl.build{z:Value}{K:Array Field}{vs:List (Nat×Value)}{places:Array (Nat×Nat)}{cells:Av_}(Y:zeroOf P t=some z)(Z:P.underlying t=some (.struct K))(ac:K.toList.mapM (λf=>(Bp P f.type).map λn=>(f.offset,n))=some places.toList)
  (ag:ps.toList.map (λ(j,x)=>(j,ρ x))=vs) (ai:Instr.fill (places[·]?) z.cells vs=some cells):Yl P ⟨d,.build t ps,ty,p,af,g⟩ ρ s (.agg cells):=by
 refine Gp Q6 ?_;unfold Instr.build;refine Az (x:=zeroValue t) _ (H8 Y ?_);refine Az _ _ (CG Z ?_);simp only;have key:∀(l:List Field) (acc:List (Nat×Nat)) {Q:List (Nat×Nat)->St->Prop}{X:Halt->St->Prop}(ps:List (Nat×Nat)),l.mapM (λf=>(Bp P f.type).map λn=>(f.offset,n))=some ps->Q (acc.reverse++ps) s->lp P (List.mapM.loop (m:=Sem) (λf=>do pure (f.offset,← Go.sizeOf f.type)) l acc) s Q X:=by
  intro l
  induction l with
  | nil=>
   intro acc Q X ps h k;simp at h;subst h;simp only[pG] at k;exact k
  | cons f l al=>
   intro acc Q X ps h k;simp only[sZ,bind] at h;cases O:Bp P f.type with
   | none=>rw[O] at h;simp at h
   | some n=>
    rw[O] at h;simp only[qH,Option.bind_some] at h;let⟨am,ap,U⟩:=bind_some h;simp at U;subst U;have:=al ((f.offset,n)::acc) (Q:=Q) (X:=X) am ap (by simpa using k);simp only[List.mapM.loop];exact Az _ _ (Az (x:=Go.sizeOf f.type) _ (Fp O this))
 have e:(ps.map λ(j,x)=>(j,ρ x)).toList=vs:=by rw[← ag,sI]
 refine Az _ _ ?_;rw[q7];refine Az (x:=List.mapM.loop (m:=Sem) (λf=>do pure (f.offset,← Go.sizeOf f.type)) K.toList []) (f:=λr=>pure r.toArray) (key K.toList [] places.toList ac ?_)
 simp only[List.reverse_nil,qr,lp,pure];rw[e,ai];exact⟨V,V⟩
end
variable {S:List Seg}
variable{todo:Li_}{sz:Nat}{d1:Tmp}{ats:Array TypeId}{g':On_}{fn:Func}{R:Value->LH->Seg->Prop}{args:Array Operand}{S':List Seg}
section
variable {b:Frame}{n:Nat}
variable {x:Operand}{v:Value}{i:Nat}
theorem JS.box(O:ops[i]?=some ⟨d,.box e x,ty,p,af,g⟩)(hw:AY L ops ⟨d,.box e x,ty,p,af,g⟩=some true)(U:BU b n ⟨d,.box e x,ty,p,af,g⟩=true)(Y:Aq E H S)(Z:ev L x=some v)
  (h:∀r,Aq E H (S++ [[(r,.cells v.cells e (0,0))]])->JL J Q b n (Ay L d (.pointer (some ⟨r,0,none⟩))) ds (.inRegion ops rest::k) cs (Aj E H (S++ [[(r,.cells v.cells e (0,0))]]))):
  JL J Q b n L ds (.inRegion ops (i::rest)::k) cs (Aj E H S):=
 JL.box O hw U Y Z λr K=>by rw[(F4 K).1];exact h r (F4 K).2
theorem JS.alloc{z:Value}(O:ops[i]?=some ⟨d,.alloc e,ty,p,af,g⟩)(hw:AY L ops ⟨d,.alloc e,ty,p,af,g⟩=some true)(U:BU b n ⟨d,.alloc e,ty,p,af,g⟩=true)(Y:Aq E H S)(Z:zeroOf P e=some z)
  (h:∀r,Aq E H (S++ [[(r,.cells z.cells e (0,0))]])->JL J Q b n (Ay L d (.pointer (some ⟨r,0,none⟩))) ds (.inRegion ops rest::k) cs (Aj E H (S++ [[(r,.cells z.cells e (0,0))]]))):
  JL J Q b n L ds (.inRegion ops (i::rest)::k) cs (Aj E H S):=
 JL.alloc O hw U Y Z λr K=>by rw[(F4 K).1];exact h r (F4 K).2
theorem JS.store{bk:Nat}{c:Av_}(j:Nat)(U:ops[i]?=some ⟨d,.store t x y,ty,p,af,g⟩)(hw:AY L ops ⟨d,.store t x y,ty,p,af,g⟩=some true)(Y:BU b n ⟨d,.store t x y,ty,p,af,g⟩=true)(Z:Aq E H S)
  (ac:ev L x=some (.pointer (some ⟨bk,off,none⟩))) (ag:ev L y=some v) (ai:Bp P t=some v.cells.size) (al:∀u∈v.cells.toList,C5 u=true) (K:S[j]?=some [(bk,.cells c e (0,0))]) (hle:off+v.cells.size<=c.size)
  (h:Aq E H (S.set j [(bk,.cells (A3 c off v.cells.toList) e (0,0))])->JL J Q b n (Ay L d undef) ds (.inRegion ops rest::k) cs (Aj E H (S.set j [(bk,.cells (A3 c off v.cells.toList) e (0,0))]))):
  JL J Q b n L ds (.inRegion ops (i::rest)::k) cs (Aj E H S):=by
 let⟨am,ap⟩:=HI Z K;rw[am];refine JL.store (S.set j []).flatten.length U hw Y ap ac ag ai al (c:=c) (e:=e) (by simp) hle λO=>?_;have aq:((S.set j []).flatten++ [(bk,Obj.cells c e (0,0))]).set (S.set j []).flatten.length (bk,.cells (A3 c off v.cells.toList) e (0,0))=(S.set j []).flatten++ [(bk,.cells (A3 c off v.cells.toList) e (0,0))]:=IQ _ _ _ _;rw[aq] at O ⊢;let⟨av,aw⟩:=Kg K O;rw[av];exact h aw
theorem JS.drop(j:Nat)(Y:Aq E H S)(K:S[j]?=some seg)(h:Aq E H (S.set j [])->JL J Q b n L ds todo cs (Aj E H (S.set j []))):JL J Q b n L ds todo cs (Aj E H S):=by
 let⟨Z,O⟩:=HI Y K;rw[Z];have ac:Nd E H ((S.set j []).flatten++ []):=by rw[pG];exact Lh.Nd.left O
 let⟨U,ag⟩:=Kg (seg':=[]) K ac;refine JL.drop (S.set j []).flatten (λq ai=>pS.1 (p9 _ ai)) O ?_;have al:(S.set j []).flatten++ []=(S.set j []).flatten:=pG _;rw[al] at U;rw[U];exact h ag
theorem ED{bk:Nat}{c:Av_}{f:Nat×Nat}(j:Nat)(O:Aq E H S)(U:S[j]?=some [(bk,.cells c e f)])
  (h:∀E',Le E E'->At E' bk 0 c.toList->Aq E' H (S.set j [])->JL J Q b n L ds todo cs (Aj E' H (S.set j []))):JL J Q b n L ds todo cs (Aj E H S):=by
 let⟨Y,Z⟩:=HI O U;rw[Y];have ac:((S.set j []).flatten++ [(bk,Obj.cells c e f)])[(S.set j []).flatten.length]?=some (bk,Obj.cells c e f):=by simp
 refine JL.freeze (S.set j []).flatten.length Z ac λE' hle ag K=>?_;have ai:((S.set j []).flatten++ [(bk,Obj.cells c e f)]).eraseIdx (S.set j []).flatten.length=(S.set j []).flatten:=by rw[q0 (no _)];simp
 rw[ai] at K ⊢;exact h E' hle ⟨_,_,_,ag,λi w hi=>by simpa using hi⟩ K
theorem CH{pp:Rp α}{a:Option Addr}{xs:List α}(j:Nat)(U:OL e pp E a c seg xs)(al:Aq E H S)(am:S[j]?=some seg)
  (h:∀E',Le E E'->Ap pp E' a c xs->Aq E' H (S.set j [])->JL J Q b n L ds todo cs (Aj E' H (S.set j []))):JL J Q b n L ds todo cs (Aj E H S):=by
 obtain⟨wss,U,ac,ag⟩:=U;have ap:∀ad:Addr,a=some ad->ad.spot=none:=λad K=>by
  rcases U with⟨O,_⟩ | ⟨bk,f,O,_⟩;rw[O] at K;cases K;rw[O] at K;cases K;rfl
 let⟨O,aq⟩:=HI al am;rw[O];refine Yf U aq λE' hle av aw=>h E' hle ?_ aw;obtain⟨ay,az,Y,a0,a5,Z⟩:=av;obtain⟨rfl,-,rfl⟩:a=ay/\xs.length=xs.length/\c=az:=by
  simp only[Value.slice.injEq] at Y;exact⟨Y.1,V,Y.2.2⟩
 refine⟨a0,?_⟩;rcases Z with Z | ⟨bk,off,f,a1,fr,a2,g2,a3⟩;exact .inl ⟨pL Z,λad K=>.inl (ap ad K)⟩
 .refine .inr ⟨bk,off,a2,λi x ai=>?_⟩;have a4:i<wss.length:=by rw[ac];exact(fx.1 ai).1
  have hw:=d6 a4;refine⟨wss[i],pp.M hle (ag i x _ ai hw),f,a1,fr,g2,λm w hm=>?_⟩;rw[rt];exact a3 _ w (Li (IN ac ag) hw m w hm)
theorem Yb{pp:Rp α}{xs:List α}{x:α}{ws:Lv_}(O:wss.length=xs.length)(h:∀(i:Nat) x ws,xs[i]?=some x->wss[i]?=some ws->pp.r E ws x)(U:pp.r E ws x):
  ∀(i:Nat) y us,(xs++ [x])[i]?=some y->(wss++ [ws])[i]?=some us->pp.r E us y:=by
 intro i y us K hu;rcases mt i xs.length with hi | hi;rw[po hi] at K;rw[po (by omega)] at hu;exact h i y us K hu
 .rw [pf hi] at K;rw[pf (by omega),O] at hu;cases hm:i - xs.length with
  | zero=>rw[hm] at K hu;simp at K hu;subst K hu;exact U
  | succ m=>rw[hm] at K;simp at K
theorem TW{pp:Rp α}{t1 t2:TypeId}{a:Option Addr}{xs:List α}{xv:α}{id:Nat}{Y:TypeId}{Z:String}{ac:Ae_}{z:Value}(j:Nat)
  (aq:ops[i]?=some ⟨some d1,.buildSlice t2 1 #[(0,y)],Y,Z,ac,g'⟩) (hw:AY L ops ⟨some d1,.buildSlice t2 1 #[(0,y)],Y,Z,ac,g'⟩=some true) (av:BU b n ⟨some d1,.buildSlice t2 1 #[(0,y)],Y,Z,ac,g'⟩=true)
  (aw:ops[id]?=some ⟨d,.call ⟨.builtin .append,#[x,.tmp d1],ats⟩,ty,p,af,g⟩) (ay:∀w,AY (Ay L (some d1) w) ops ⟨d,.call ⟨.builtin .append,#[x,.tmp d1],ats⟩,ty,p,af,g⟩=some true) (az:BU b n ⟨d,.call ⟨.builtin .append,#[x,.tmp d1],ats⟩,ty,p,af,g⟩=true)
  (a0:∀w,ev (Ay L (some d1) w) x=some (.slice a xs.length c)) (a1:ev L y=some v) (a2:ats[0]?=some t) (a3:ats[1]?=some t1) (a4:P.underlying t=some (.slice e)) (a5:P.underlying t1=some (.slice e)) (a6:P.underlying t2=some (.slice e)) (a7:Bp P e=some pp.n) (hb:FY P e=some sz) (a8:zeroOf P e=some z) (a9:z.cells.size=pp.n)
  (bb:0<sz) (be:sz<=64) (bi:0<pp.n) (bn:pp.n<=64) (bo:xs.length+1<=2^40) (ag:OL e pp E a c seg xs) (ai:pp.r E v.cells.toList xv) (bv:Aq E H S) (am:S[j]?=some seg)
  (h:∀w K O seg',OL e pp E K O seg' (xs++ [xv])->Aq E H (S.set j seg')->JL J Q b n (Ay (Ay L (some d1) w) d (.slice K (xs++ [xv]).length O)) ds (.inRegion ops rest::k) cs (Aj E H (S.set j seg'))):
  JL J Q b n L ds (.inRegion ops (i::id::rest)::k) cs (Aj E H S):=by
 obtain⟨wss,ag,ap,bw⟩:=ag;let⟨bx,bz⟩:=HI bv am;rw[bx];have b0:v.cells.size=pp.n:=by simpa using pp.len ai
 refine Yn aq hw av aw ay az a0 a1 a2 a3 a4 a5 a6 a7 hb a8 a9 bb be b0 bi bn bo (pp.one ai) ag bz λw K O b1 b2 b3=>?_;let⟨b4,b5⟩:=Kg am b3;rw[b4];have hlen:(xs++ [xv]).length=xs.length+1:=by simp
 have:=h w K O b1 ⟨wss++ [v.cells.toList],by rw[hlen,qR];simpa using b2,by simp[ap],Yb ap bw ai⟩ b5;rw[hlen] at this;exact this
theorem V6{pp:Rp α}{a:Option Addr}{xs:List α}{xv:α}{m:Int}(O:Ap pp E a c xs)(hm:ix xs m=some xv)
  (U:ops[i]?=some ⟨d,.indexAddr t x y,ty,p,af,g⟩) (hw:AY L ops ⟨d,.indexAddr t x y,ty,p,af,g⟩=some true) (Y:BU b n ⟨d,.indexAddr t x y,ty,p,af,g⟩=true)
  (Z:ev L x=some (.slice a xs.length c)) (ac:ev L y=some (.int kd m)) (ag:P.underlying t=some (.slice e)) (ai:Bp P e=some pp.n)
  (h:∀bk o ws,pp.r E ws xv->At E bk o ws->JL J Q b n (Ay L d (.pointer (some ⟨bk,o,none⟩))) ds (.inRegion ops rest::k) cs (Aj E H S)):
  JL J Q b n L ds (.inRegion ops (i::rest)::k) cs (Aj E H S):=by
 obtain⟨m,rfl,hm⟩:=F8 hm;have al:m<xs.length:=(fx.1 hm).1;obtain⟨av,⟨rfl,_⟩ | ⟨bk,off,rfl,am⟩⟩:=O;simp at al
 let⟨ws,ap,aq⟩:=am m xv hm;refine A9 (v:=.pointer (some ⟨bk,off+m*pp.n,none⟩)) U hw Y (λρ K=>?_) (h bk _ ws ap aq);have:=OR (P:=P) (s:=Aj E H S) (d:=d) (ty:=ty) (p:=p) (af:=af) (g:=g) ag ai (K x _ Z) (K y _ ac) ⟨by omega,by omega⟩;rw[Ek rfl] at this;simpa using this
theorem At.MQ{bk o:Nat}{ws:Lv_}(h:At E bk o ws)(K:ws[j]?=some w):(Aj E H S).cell? ⟨bk,o+j,none⟩=some w:=h.cell K
theorem At.Si{bk o:Nat}{ws:Lv_}(h:At E bk o ws):∀j v,ws[j]?=some v->(Aj E H S).cell? (Addr.add ⟨bk,o,none⟩ j)=some v:=h.cells
theorem BF(I:Env->St->Prop){c:Code}(K:∀L s,I L s->JL J Q b n L ds todo cs s)(h:(∀L s,I L s->JL J Q b n L ds todo cs s)->JL J Q b n L ds (.code c::todo) cs s):JL J Q b n L ds (.code c::todo) cs s:=h K
theorem IK{K:List Nat}(l:List Nat)(I:Env->St->Prop)(O:∀L s,I L s->JL J Q b n L ds (.inRegion ops l::todo) cs s)(h:(∀L s,I L s->JL J Q b n L ds (.inRegion ops l::todo) cs s)->JL J Q b n L ds (.inRegion ops K::todo) cs s):JL J Q b n L ds (.inRegion ops K::todo) cs s:=h O
theorem U4{c:Code}{body:β->Option (Bj β A)}{f:Nat}{O:β}{a:A}(U:iter body f O=some a)(I:Env->St->β->Prop)(Z:I L s O)
  (round:∀L s x,I L s x->(∀Y,body x=some (.done Y)->Y=a)->(∃st,body x=some st)->(∀L' s' x',I L' s' x'->body x=some (.more x')->JL J Q b n L' ds (.inLoop c::k) cs s')->JL J Q b n L ds (.code c:: .inLoop c::k) cs s):
  JL J Q b n L ds (.code (.loop c)::k) cs s:=by
 refine Jo ?_
 induction f generalizing L s O with
 | zero=>cases U
 | succ f ac=>
  refine round L s O Z (λY h=>Ud U h) (Us U) λL' s' x' ag hb=>JL.again (ac (Un U hb) ag)
def A6(J:Judge P)(f:FuncId)(args:Lv_)(E:LH)(B:Seg)(R:Value->LH->Seg->Prop):Prop:=
 ∀H,Nd E H B->Fh J f args.toArray (mk E H B) (λv s'=>∃E' B',Le E E'/\R v E' B'/\Nd E' H B'/\s'=mk E' H B')
theorem A6.enter{f:FuncId}{c:Code}{vs:Lv_}{B:Seg}(O:P.funcs[f]?=some fn)(hb:fn.body=some c)(U:vs.length<=fn.ntmps)
  (h:∀(Q:Gs_) (K:Frame) (cs:Lf_) (H:LH),Aq E H [B]->(∀v E' S' B',Le E E'->S'.flatten=B'->R v E' B'->Aq E' H S'->J.ok Q (G (K.finish v) cs) (Aj E' H S'))->JL J Q (base f) fn.ntmps (GQ 0 vs) [] [.code c] (K::cs) (Aj E H [B])):A6 J f vs E B R:=λH Y=>
 Fh.enter O hb U λQ K cs Z=>by
  have ac:mk E H B=Aj E H [B]:=by unfold Aj;simp
  rw[ac];exact h Q K cs H (by unfold Aq;simpa using Y) λv E' S' B' hle ag ai al=>by
   subst ag;exact Z v _ ⟨E',S'.flatten,hle,ai,al,rfl⟩
theorem A6.M{f:FuncId}{vs:Lv_}{B:Seg}{K:Value->LH->Seg->Prop}(h:A6 J f vs E B R)(U:∀v E' B',Le E E'->R v E' B'->K v E' B'):A6 J f vs E B K:=λH Y=>
 (h H Y).M λv s' ⟨E',B',O,Z,ac,ag⟩=>⟨E',B',O,U v E' B' O Z,ac,ag⟩
theorem Gq{H:LH}:∀{A B:List (Nat×Obj)},Bn (A++B) H=Bn A (Bn B H)
 | [],_=>rfl
 | (c,o)::A,B=>by
  funext x
  simp only[qQ,Bn]
  split;rfl;rw[Gq]
theorem OO{H:LH}{x:Nat}:∀{B:List (Nat×Obj)},(∀p∈B,p.1≠x)->Bn B H x=H x
 | [],_=>rfl
 | (c,u)::B,K=>by
  have O:x≠c:=λe=>K (c,u) (by simp) e.symm
  simp only[Bn,d9 O]
  exact OO λp U=>K p (f7 _ U)
theorem Nd.front{A B:List (Nat×Obj)}(h:Nd E H (A++B)):Nd E (Bn B H) A:=by
 rw[Nd.iff] at h ⊢;obtain⟨K,U⟩:=h;rw[ql,qx] at K;refine⟨K.1,λq O=>⟨(U q (p9 _ O)).1,?_⟩⟩;rw[OO λr Y e=>K.2.2 q.1 (sa O) r.1 (sa Y) e.symm];exact(U q (p9 _ O)).2
theorem Nd.glue{A B:List (Nat×Obj)}(h:Nd E (Bn B H) A)(U:Nd E H B):Nd E H (A++B):=by
 have Y:=U;rw[Nd.iff] at h U ⊢;rw[ql,qx];have key:∀q∈A,∀r∈B,q.1≠r.1:=λq K r O e=>by
  have:=(h.2 q K).2;rw[e] at this;let⟨i,hi⟩:=Y.mem (b:=r.1) (o:=r.2) O;rw[Ka Y hi] at this;cases this
 refine⟨⟨h.1,U.1,λx Z y ac e=>?_⟩,λq K=>?_⟩;obtain⟨q,K,rfl⟩:=pO.1 Z;obtain⟨r,O,rfl⟩:=pO.1 ac;exact key q K r O e
 .rcases pg.1 K with K | K
  .refine⟨(h.2 q K).1,?_⟩;have:=(h.2 q K).2
   rwa[OO λr O e=>key q K r O e.symm] at this
  .exact U.2 q K
theorem Vq{f:FuncId}{vs:Lv_}(j:Nat)
  (ag:A6 J f vs E seg R) (ai:ops[i]?=some ⟨d,.call ⟨.value (.func f),args,ats⟩,ty,p,af,g⟩) (hw:AY L ops ⟨d,.call ⟨.value (.func f),args,ats⟩,ty,p,af,g⟩=some true) (al:((b.kind != .early)&&Bo n d)=true) (hb:Ef P f=true)
  (am:evs L args.toList=some vs) (K:Aq E H S) (O:S[j]?=some seg) (ap:∀v E' seg',Le E E'->R v E' seg'->Aq E' H (S.set j seg')->JL J Q b n (Ay L d v) ds (.inRegion ops rest::k) cs (Aj E' H (S.set j seg'))):
  JL J Q b n L ds (.inRegion ops (i::rest)::k) cs (Aj E H S):=by
 have U:S.flatten.Perm (seg++(S.set j []).flatten):=(Ds (seg':=seg) O).1.trans pr;have Y:Nd E H (seg++(S.set j []).flatten):=Nd.perm K U;have aq:Aj E H S=mk E (Bn (S.set j []).flatten H) seg:=by
  rw[show Aj E H S=mk E H S.flatten from rfl,FH K U];unfold mk;rw[Gq]
 rw[aq];refine bm ai hw al hb am (ag _ (Nd.front Y)) ?_;rintro v s' ⟨E',B',hle,av,aw,rfl⟩;have e2:mk E' (Bn (S.set j []).flatten H) B'=mk E' H (B'++(S.set j []).flatten):=by unfold mk;rw[Gq]
 have ay:Nd E H (S.set j []).flatten:=by
  have:=Y;rw[Nd.iff] at this ⊢;rw[ql,qx] at this;exact⟨this.1.2.1,λq az=>this.2 q (qd _ az)⟩
 refine VA V λ⟨w,a0⟩=>?_;have a1:Nd E' H (S.set j []).flatten:=ay.grow λx a2=>by
  have a3:=a0.d x a2;have a4:Bn B' (Bn (S.set j []).flatten H) x=none:=a3;exact(IE a4).1
 have Z:Nd E' H (B'++(S.set j []).flatten):=Nd.glue aw a1;rw[e2];have ac:(B'++(S.set j []).flatten).Perm (S.set j B').flatten:=pr.trans (Ds O).2.symm;rw[FH Z ac];exact ap v E' B' hle av (Nd.perm Z ac)
theorem JS.call{f:FuncId}{vs:Lv_}
  (U:A6 J f vs E [] R) (Y:ops[i]?=some ⟨d,.call ⟨.value (.func f),args,ats⟩,ty,p,af,g⟩) (hw:AY L ops ⟨d,.call ⟨.value (.func f),args,ats⟩,ty,p,af,g⟩=some true) (Z:((b.kind != .early)&&Bo n d)=true) (hb:Ef P f=true)
  (ac:evs L args.toList=some vs) (K:Aq E H S) (ag:∀v E' seg',Le E E'->R v E' seg'->Aq E' H (S++ [seg'])->JL J Q b n (Ay L d v) ds (.inRegion ops rest::k) cs (Aj E' H (S++ [seg']))):
  JL J Q b n L ds (.inRegion ops (i::rest)::k) cs (Aj E H S):=by
 have ai:Aj E H S=Aj E H (S++ [[]]):=by unfold Aj;simp
 rw[ai];refine Vq S.length U Y hw Z hb ac (by unfold Aq at K ⊢;rw[GJ,pG];exact K) (by simp) λv E' seg' hle al O=>?_;have e2:(S++ [[]]).set S.length seg'=S++ [seg']:=IQ _ _ _ _;rw[e2] at O ⊢;exact ag v E' seg' hle al O
theorem IL(K:S'.flatten=S.flatten)(O:Aq E H S)(h:Aq E H S'->JL J Q b n L ds todo cs (Aj E H S')):JL J Q b n L ds todo cs (Aj E H S):=by
 unfold Aj Aq at*;rw[K] at h;exact h O
end
def Ld(P:Program)(t:TypeId)(a:Addr)(s:St)(v:Value):Prop:=lp P (loadVar t a) s (λu s'=>u=v/\s'=s) (λ_ _=>False)
theorem Ld.one{P:Program}{t:TypeId}{a:Addr}{s:St}{v:Value}(K:DJ P t=some false)(h:s.cell? a=some v):Ld P t a s v:=TK K h ⟨V,V⟩
theorem Ld.many{P:Program}{t:TypeId}{a:Addr}{s:St}{vs:Lv_}(K:DJ P t=some true)(O:Bp P t=some vs.length)(h:∀j v,vs[j]?=some v->s.cell? (a.add j)=some v):Ld P t a s (.agg vs.toArray):=TN K O h ⟨V,V⟩
def RV(P:Program)(L:Env)(s:St):List ResultVar->Lv_->Prop
 | [],[]=>True
 | .tmp t::rs,v::vs=>look L t=some v/\RV P L s rs vs
 | .cell a t::rs,v::vs=>(∃ad,look L a=some (.pointer (some ad))/\Ld P t ad s v)/\RV P L s rs vs
 | _,_=>False
def Pa:Lv_->Value
 | [v]=>v
 | vs=>.tuple vs.toArray
theorem YP(vs:Lv_):(if h:vs.toArray.size=1 then vs.toArray[0] else Value.tuple vs.toArray)=Pa vs:=by
 match vs with
 | []=>rfl
 | [v]=>rfl
 | a::b::c=>simp[Pa]
theorem BO.list{P:Program}{f:FuncId}{n:Nat}{L:Env}{s:St}{rs:List ResultVar}{vs:Lv_}(Z:P.funcs[f]?=some fn)(ac:fn.results.toList=rs)(h:RV P L s rs vs):BO P f L n s (Pa vs):=by
 refine⟨fn,Z,λT U=>?_⟩;unfold results;rw[q7,ac];have key:∀(rs:List ResultVar) (acc vs:Lv_) {Q:Lv_->St->Prop}{X:Halt->St->Prop},RV P L s rs vs->Q (acc.reverse++vs) s->lp P (List.mapM.loop (m:=Sem) (λr=>match r with
   | .tmp t=>pure (T.getD t undef)
   | .cell a t=>do loadVar t (← asAddr (T.getD a undef))) rs acc) s Q X:=by
  intro rs
  induction rs with
  | nil=>
   intro acc vs Q X h k;cases vs with
   | nil=>simp only[pG] at k;exact k
   | cons v vs=>cases h
  | cons r rs Y=>
   intro acc vs Q X h k;cases vs with
   | nil=>cases r<;>cases h
   | cons v vs=>
    cases r with
    | tmp t=>
     obtain⟨K,O⟩:=h;have:=U.at_ t v K;simp only[List.mapM.loop];rw[this];exact Y (v::acc) vs O (by simpa using k)
    | cell a t=>
     obtain⟨⟨ad,K,ag⟩,O⟩:=h;have:=U.at_ a _ K;simp only[List.mapM.loop];rw[this];refine Az _ _ (EI _ (show lp P (loadVar t ad) s _ _ from ag) ?_ (λ_ _ h=>h.elim));rintro u s' ⟨rfl,rfl⟩;exact Y (u::acc) vs O (by simpa using k)
 refine Az _ _ (Az (x:=List.mapM.loop (m:=Sem) _ rs []) (f:=λr=>pure r.toArray) ?_);refine key rs [] vs h ?_;simp only[List.reverse_nil,qr,lp,pure];exact⟨YP vs,trivial⟩
section
variable {g:Goroutine}
theorem ES(j:Nat)(Z:Aq E H S)(U:S[j]?=some seg)(h:Aq E H (S.set j [])->J.ok Q g (Aj E H (S.set j []))):J.ok Q g (Aj E H S):=by
 let⟨ac,K⟩:=HI Z U;have ag:Nd E H ((S.set j []).flatten++ []):=by rw[pG];exact Lh.Nd.left K
 let⟨ap,ai⟩:=Kg (seg':=[]) U ag;refine J.ghost (s₀:=Aj E H (S.set j [])) ⟨λ_ _ h=>h,λx o al=>?_,λ_ _ h=>.inl h,V⟩ (h ai);have Y:Bn (S.set j []).flatten H x=some o:=al;show(Aj E H S).H x=some o;rw[ac];show Bn ((S.set j []).flatten++seg) H x=some o;rw[show Bn ((S.set j []).flatten++seg) H=Bn (seg++(S.set j []).flatten) H from TO K pr,Gq];by_cases hm:∃p∈seg,p.1=x;exfalso;obtain⟨p,O,e⟩:=hm;have am:=Nd.front (Nd.perm K pr);have:=((Nd.iff.1 am).2 p O).2;rw[e,Y] at this;cases this;rw[OO λp O e=>hm ⟨p,O,e⟩];exact Y
end
variable{E0:LH}{K:Next->St->Prop}
section
variable {b:Frame}{n:Nat}
variable {x:Operand}{v:Value}{i:Nat}
theorem Up{ρ:Operand->Value}:execOp ρ ⟨d,.buildSlice t sz ps,ty,p,af,g⟩=(do pure (Next.value (← Instr.buildSlice t sz (ps.map λ(j,x)=>(j,ρ x))))):=by
 simp only[execOp]
theorem Yw(v:Av_)(off:Nat)(c:Av_):v.zipIdx.foldl (λcs (x,j)=>cs.setIfInBounds (off+j) x) c=A3 c off v.toList:=by
 rw[← Array.foldl_toList,Array.toList_zipIdx];have key:∀(l:Lv_) (st:Nat) (c:Av_),List.foldl (λcs (p:Value×Nat)=>cs.setIfInBounds (off+p.2) p.1) c (l.zipIdx st)=A3 c (off+st) l:=by
  intro l
  induction l with
  | nil=>intro st c;rfl
  | cons x l K=>intro st c;simp only[td,rq,A3];rw[K];rfl
 exact key v.toList 0 c
def LC(place:Nat->Option (Nat×Nat))(cells:Av_):List (Nat×Value)->Option (Av_)
 | []=>some cells
 | (i,v)::rest=>match place i with
  | none=>none
  | some (off,size)=>if v.cells.size=size/\off+v.cells.size<=cells.size then LC place (A3 cells off v.cells.toList) rest else none
theorem fill_eq{place:Nat->Option (Nat×Nat)}:∀{vs:List (Nat×Value)}{cells:Av_},Instr.fill place cells vs=LC place cells vs
 | [],_=>rfl
 | (i,v)::rest,cells=>by
  simp only[Instr.fill,LC]
  cases place i with
  | none=>rfl
  | some q=>
   obtain⟨off,size⟩:=q
   simp only
   by_cases h:v.cells.size=size/\off+v.cells.size<=cells.size;rw[eS h,d9 (by simp only[qz,qw,ne_eq];omega),fill_eq,Yw];rw[d9 h,eS (by simp only[qz,qw,ne_eq];omega)]
theorem UP{n:Nat}:∀(vs:Lv_) (st:Nat) (cells:Av_),(∀v∈vs,v.cells.size=n)->cells.size=(st+vs.length)*n->
  ∃U,LC (λi=>some (i*n,n)) cells ((vs.zipIdx st).map λq=>(q.2,q.1))=some U/\U.toList=cells.toList.take (st*n)++(vs.map (·.cells.toList)).flatten
 | [],st,cells,_,K=>⟨cells,rfl,by simp only[List.length_nil,qq] at K;simp[← K,qJ]⟩
 | v::vs,st,cells,Y,K=>by
  have O:=Y v (by simp)
  have hle:st*n+n<=cells.size:=by
   rw[K,pM];have:(st+1)*n<=(st+(vs.length+1))*n:=qi _ (by omega);rw[qy] at this;exact this
  obtain⟨Z,ac,ag⟩:=UP vs (st+1) (A3 cells (st*n) v.cells.toList) (λu hu=>Y u (f7 _ hu)) (by rw[Np,K,pM];congr 1;omega);refine⟨Z,?_,?_⟩;simp only[td,pW,LC];rw[eS ⟨O,by omega⟩];exact ac;rw[ag,qy];have:=QS cells (st*n) v.cells.toList (by simp[O];omega);rw[show v.cells.toList.length=n by simp[O]] at this;rw[this];simp
def LW{α:Type}(pp:Rp α)(E:LH):List α->Lv_->Prop
 | [],[]=>True
 | x::xs,v::vs=>pp.r E v.cells.toList x/\LW pp E xs vs
 | _,_=>False
theorem LW.at{E:LH}{α:Type}{pp:Rp α}:∀{xs:List α}{vs:Lv_},LW pp E xs vs->∀(i:Nat) x v,xs[i]?=some x->vs[i]?=some v->pp.r E v.cells.toList x
 | [],_,_,_,_,_,h,_=>by simp at h
 | _::_,[],h,_,_,_,_,_=>h.elim
 | x::xs,v::vs,h,0,y,u,K,hu=>by simp at K hu;subst K hu;exact h.1
 | x::xs,v::vs,h,i+1,y,u,K,hu=>LW.at h.2 i y u (by simpa using K) (by simpa using hu)
theorem WC{ρ:Operand->Value}(av:FA L ρ){pp:Rp α}(vs:Lv_){z:Value}(xs:List α)
  (aw:P.underlying t=some (.slice e)) (ay:Bp P e=some pp.n) (az:zeroOf P e=some z) (a0:decide (0<sz*pp.n/\sz*pp.n<=2^24)=true)
  (a1:ps.toList.mapM (λq=>(ev L q.2).map λv=>(q.1,v))=some ((vs.zipIdx 0).map λq=>(q.2,q.1)))
  (U:vs.length=sz) (Y:xs.length=sz) (a2:LW pp E0 xs vs) (a3:Aq E H S)
  (h:∀r seg,OL e pp E0 (some ⟨r,0,none⟩) sz seg xs->Aq E H (S++ [seg])->K (.value (.slice (some ⟨r,0,none⟩) xs.length sz)) (Aj E H (S++ [seg]))):
  lp P (execOp ρ ⟨d,.buildSlice t sz ps,ty,p,af,g⟩) (Aj E H S) K (λ_ _=>False):=by
 have ai:=a2.at;have a4:(ps.map λ(j,x)=>(j,ρ x)).toList=(vs.zipIdx 0).map λq=>(q.2,q.1):=by
  have key:∀(l:List (Nat×Operand)) (vs:List (Nat×Value)),l.mapM (λq=>(ev L q.2).map λv=>(q.1,v))=some vs->l.map (λ(j,x)=>(j,ρ x))=vs:=by
   intro l
   induction l with
   | nil=>intro vs h;simp at h;subst h;rfl
   | cons q l Z=>
    intro vs h;simp only[sZ,bind] at h;cases ac:ev L q.2 with
    | none=>rw[ac] at h;simp at h
    | some w=>
     rw[ac] at h;simp only[qH,Option.bind_some] at h;let⟨a5,a6,al⟩:=bind_some h;simp at al;subst al;simp[Z a5 a6,av _ _ ac]
  rw[sI];exact key _ _ a1
 have am:∀v∈vs,v.cells.size=pp.n:=λv O=>by
  let⟨i,hi⟩:=pS.1 O;have a7:i<xs.length:=by rw[Y,← U];exact(fx.1 hi).1
  simpa using pp.len (ai i _ v (d6 a7) hi)
 rw[Up];refine Az _ _ ?_;unfold Instr.buildSlice;refine Az _ _ (CG aw ?_);refine Az _ _ (Fp ay ?_);have bb:=qM a0;rw[d9 (by omega),d9 (by omega)];refine Az (x:=zeroValue e) _ (H8 az ?_);rw[IF,a4];obtain⟨cells,a8,ag⟩:=UP vs 0 ((Array.range (sz*pp.n)).map (z.cells[· % z.cells.size]!)) am (by simp[U]);simp only[fill_eq,a8];simp only[rl,List.take_zero,qr] at ag;refine Az _ _ (J8 a3 λr ap=>?_);rw[(F4 ap).1];have aq:cells.size=sz*pp.n:=by
  have:cells.toList.length=sz*pp.n:=by
   rw[ag];have:∀(vs:Lv_),(∀v∈vs,v.cells.size=pp.n)->(vs.map (·.cells.toList)).flatten.length=vs.length*pp.n:=by
    intro vs
    induction vs with
    | nil=>intro _;simp
    | cons v vs Z=>intro h;rw[pW,pY,pA,Z λw hw=>h w (f7 _ hw),pM,qy,tf];simp[h v (by simp)]
   rw[this vs am,U]
  simpa using this
 have:=h r [(r,.cells cells e (0,0))] ⟨vs.map (·.cells.toList),.inr ⟨r,cells,rfl,rfl,aq,by omega,by rw[← ag,qJ (by simp[aq,Y])]⟩,by simp[U,Y],λi x ws a9 hw=>by
  rw[qe] at hw
  cases O:vs[i]? with
  | none=>rw[O] at hw;cases hw
  | some v=>rw[O] at hw;cases hw;exact ai i x v a9 O⟩ (F4 ap).2
 rw[Y] at this;exact this
theorem Gr{pp:Rp α}(vs:Lv_){z:Value}(xs:List α)
  (K:ops[i]?=some ⟨d,.buildSlice t sz ps,ty,p,af,g⟩) (hw:AY L ops ⟨d,.buildSlice t sz ps,ty,p,af,g⟩=some true) (O:BU b n ⟨d,.buildSlice t sz ps,ty,p,af,g⟩=true)
  (U:P.underlying t=some (.slice e)) (Y:Bp P e=some pp.n) (Z:zeroOf P e=some z) (ac:decide (0<sz*pp.n/\sz*pp.n<=2^24)=true)
  (ag:ps.toList.mapM (λq=>(ev L q.2).map λv=>(q.1,v))=some ((vs.zipIdx 0).map λq=>(q.2,q.1)))
  (ai:vs.length=sz) (al:xs.length=sz) (am:LW pp E xs vs) (ap:Aq E H S)
  (h:∀r seg,OL e pp E (some ⟨r,0,none⟩) sz seg xs->Aq E H (S++ [seg])->JL J Q b n (Ay L d (.slice (some ⟨r,0,none⟩) xs.length sz)) ds (.inRegion ops rest::k) cs (Aj E H (S++ [seg]))):
  JL J Q b n L ds (.inRegion ops (i::rest)::k) cs (Aj E H S):=by
 exact JL.op K hw O λρ aq=>WC aq vs xs U Y Z ac ag ai al am ap h
theorem OL.get{pp:Rp α}{a:Option Addr}{xs:List α}{m:Nat}{x:α}(Z:OL e pp E a c seg xs)(hm:xs[m]?=some x):
  ∃bk f ws,a=some ⟨bk,0,none⟩/\seg=[(bk,.cells f e (0,0))]/\pp.r E ws x/\(∀j w,ws[j]?=some w->f[m*pp.n+j]?=some w)/\(m+1)*pp.n<=f.size/\
   ∀(x':α) (ws':Lv_),pp.r E ws' x'->OL e pp E a c [(bk,.cells (A3 f (m*pp.n) ws') e (0,0))] (xs.set m x'):=by
 obtain⟨wss,Z,al,ac⟩:=Z;have am:m<xs.length:=(fx.1 hm).1;rcases Z with⟨ag,ap,_⟩ | ⟨bk,f,ag,ap,a1,aq,av⟩;omega
 have hw:wss[m]?=some wss[m]:=d6 (by omega);have aw:=IN al ac;have hle:(m+1)*pp.n<=xs.length*pp.n:=qi _ am;have a4:xs.length*pp.n<=c*pp.n:=qi _ aq;refine⟨bk,f,wss[m],ag,ap,ac m x _ hm hw,λj w K=>?_,by omega,λx' ws' ay=>?_⟩;have:=Li aw hw j w K;rw[av,qI] at this;split at this;simpa using this;cases this
 .have az:ws'.length=pp.n:=pp.len ay;refine⟨wss.set m ws',.inr ⟨bk,_,ag,V,by rw[Np];exact a1,by simpa using aq,?_⟩,by simpa using al,λi y us Y hu=>?_⟩
  .simp only [pE];have key:∀(wss:List (Lv_)) (m:Nat) (hm:m<wss.length),(∀ws∈wss,ws.length=pp.n)->∀j,(wss.set m ws').flatten[j]?=if m*pp.n<=j/\j<(m+1)*pp.n then ws'[j - m*pp.n]? else wss.flatten[j]? :=by
    intro wss
    induction wss with
    | nil=>intro m hm;simp at hm
    | cons us wss ai=>
     intro m hm a0 j;have hu:us.length=pp.n:=a0 us (by simp);cases m with
     | zero=>
      simp only[rj,pY,rl,qc,tP,qZ,Nat.one_mul,ro];split;rename_i K;rw[po (by omega)];rename_i K;rw[pf (by omega),pf (by omega),az,hu]
     | succ m=>
      simp only[sk,pY];have O:(m+1)*pp.n=m*pp.n+pp.n:=qy _ _;have e2:(m+1+1)*pp.n=(m+1)*pp.n+pp.n:=qy _ _;rcases mt j us.length with K | K;rw[po K,po K,d9 (by omega)];rw[pf K,pf K,ai m (by simpa using hm) (λws a2=>a0 ws (f7 _ a2))];by_cases U:m*pp.n<=j - us.length/\j - us.length<(m+1)*pp.n;rw[eS U,eS (by omega)];congr 1;omega;rw[d9 U,d9 (by omega)]
   have a3:∀(vs:Lv_) (c:Av_) (off:Nat),off+vs.length<=c.size->∀j,(A3 c off vs)[j]?=if off<=j/\j<off+vs.length then vs[j - off]? else c[j]? :=by
    intro vs
    induction vs with
    | nil=>intro c off _ j;simp[A3];omega
    | cons w vs ai=>
     intro c off U j;simp only[A3,pM] at*;rw[ai _ _ (by simp;omega)];by_cases O:j=off;subst O;rw[d9 (by omega),eS (by omega),rT,qD,pq (by omega)]
     .by_cases e2:off+1<=j/\j<off+1+vs.length
      .rw [eS e2,eS (by omega)];have:j - off=(j - (off+1))+1:=by omega
       rw[this];simp
      .rw [d9 e2,d9 (by omega),pe (by omega)]
   apply qN;intro j;have O:(m+1)*pp.n=m*pp.n+pp.n:=qy _ _;have t1:(A3 f (m*pp.n) ws').toList[j]?=(A3 f (m*pp.n) ws')[j]? :=qn;have t2:f.toList[j]?=f[j]? :=qn;rw[key wss m (by omega) aw,qI,t1,a3 ws' f (m*pp.n) (by omega),av,qI,t2,az];by_cases U:m*pp.n<=j/\j<(m+1)*pp.n;rw[eS U,eS (by omega),eS (by omega)];rw[d9 U,d9 (show ¬(m*pp.n<=j/\j<m*pp.n+pp.n) by omega)]
  .rw [p8] at Y hu;by_cases O:m=i;subst O;rw[eS rfl,eS am] at Y;rw[eS rfl,eS (by omega)] at hu;cases Y;cases hu;exact ay;rw[d9 O] at hu Y;exact ac i y us Y hu
theorem Pm{pp:Rp α}{a:Option Addr}{xs:List α}{xv:α}{m:Int}(j:Nat)(O:OL e pp E a c seg xs)(hm:ix xs m=some xv)(U:S[j]?=some seg)
  (Y:ops[i]?=some ⟨d,.indexAddr t x y,ty,p,af,g⟩) (hw:AY L ops ⟨d,.indexAddr t x y,ty,p,af,g⟩=some true) (Z:BU b n ⟨d,.indexAddr t x y,ty,p,af,g⟩=true)
  (ac:ev L x=some (.slice a xs.length c)) (ag:ev L y=some (.int kd m)) (ai:P.underlying t=some (.slice e)) (al:Bp P e=some pp.n)
  (h:∀bk o f ws,S[j]?=some [(bk,.cells f e (0,0))]->pp.r E ws xv->(∀j w,ws[j]?=some w->f[o+j]?=some w)->o+pp.n<=f.size->(∀(x':α) (ws':Lv_),pp.r E ws' x'->OL e pp E a c [(bk,.cells (A3 f o ws') e (0,0))] (xs.set m.toNat x'))->o=m.toNat*pp.n->a=some ⟨bk,0,none⟩->
   JL J Q b n (Ay L d (.pointer (some ⟨bk,o,none⟩))) ds (.inRegion ops rest::k) cs (Aj E H S)):
  JL J Q b n L ds (.inRegion ops (i::rest)::k) cs (Aj E H S):=by
 obtain⟨m,rfl,hm⟩:=F8 hm;have az:m<xs.length:=(fx.1 hm).1;obtain⟨bk,f,ws,rfl,rfl,am,ap,aq,av⟩:=OL.get O hm;have aw:(m+1)*pp.n=m*pp.n+pp.n:=qy _ _;have ay:m*pp.n+pp.n<=f.size:=by rw[← aw];exact aq
 refine A9 (v:=.pointer (some ⟨bk,m*pp.n,none⟩)) Y hw Z (λρ K=>?_) (h bk (m*pp.n) f ws U am ap ay (by simpa using av) (by simp) V);have:=OR (P:=P) (s:=Aj E H S) (d:=d) (ty:=ty) (p:=p) (af:=af) (g:=g) ai al (K x _ ac) (K y _ ag) ⟨by omega,by omega⟩;rw[Ek rfl] at this;simpa using this
end
section
variable {b:Frame}{n:Nat}
variable {x:Operand}{v:Value}{i:Nat}
theorem JS.perm(K:S.flatten.Perm S'.flatten)(O:Aq E H S)(h:Aq E H S'->JL J Q b n L ds todo cs (Aj E H S')):JL J Q b n L ds todo cs (Aj E H S):=by
 have U:Aq E H S':=Nd.perm O K;rw[show Aj E H S=Aj E H S' from FH O K];exact h U
theorem F7{A B:Seg}(j:Nat)(K:S[j]?=some (A++B))(O:Aq E H S)(h:Aq E H (S.set j A++ [B])->JL J Q b n L ds todo cs (Aj E H (S.set j A++ [B]))):JL J Q b n L ds todo cs (Aj E H S):=by
 refine JS.perm ?_ O h;have U:=(Ds (seg':=A) K).1;have Y:=(Ds (seg':=A) K).2;rw[GJ];refine U.trans ?_;have Z:=Y.symm.append_right B
 rwa[pF] at Z
theorem JS.swap{A B:Seg}(j l:Nat)(O:S[j]?=some A)(U:S[l]?=some B)(Y:(j==l)=false)(Z:Aq E H S)(h:Aq E H ((S.set j B).set l A)->JL J Q b n L ds todo cs (Aj E H ((S.set j B).set l A))):JL J Q b n L ds todo cs (Aj E H S):=by
 have K:j≠l:=by simpa using Y
 refine JS.perm ?_ Z h;have a1:=(Ds (seg':=B) O).1;have ac:(S.set j [])[l]?=some B:=by rw[qa K];exact U
 have ag:=(Ds (seg':=A) ac).1;have ai:((S.set j B).set l A)[l]?=some A:=by
  have:l<(S.set j B).length:=by rw[pE];exact(fx.1 U).1
  rw[p8,eS rfl,eS this]
 have c1:=(Ds (seg':=A) ai).1;rw[rk] at c1;have al:((S.set j B).set l [])[j]?=some B:=by
  have:j<S.length:=(fx.1 O).1;rw[qa (p6 K)];simp[this]
 have c2:=(Ds (seg':=B) al).1;have am:(((S.set j B).set l []).set j [])=((S.set j []).set l []):=by
  rw[s9 _ _ K,rk,s9 _ _ K.symm]
 rw[am] at c2;exact a1.trans ((ag.append_right A).trans ((c2.symm.append_right A).trans c1.symm))
theorem GH{bk:Nat}{c:Av_}{f:Nat×Nat}{vs:Lv_}(j:Nat)(K:Aq E H S)(O:S[j]?=some ((bk,.cells c e f)::seg))(U:(c.toList.drop off).take vs.length=vs):∀i v,vs[i]?=some v->(Aj E H S).cell? (Addr.add ⟨bk,off,none⟩ i)=some v:=
 Ym K O λi v hi=>by
  have Y:i<vs.length:=(fx.1 hi).1
  rw[← U,tg Y,rJ,qn] at hi
  exact hi
theorem Ll(vs:Lv_):∀(c:Av_) (off:Nat),off+vs.length<=c.size->∀j,(A3 c off vs)[j]?=if off<=j/\j<off+vs.length then vs[j - off]? else c[j]? :=by
 induction vs with
 | nil=>intro c off _ j;simp[A3];omega
 | cons w vs K=>
  intro c off U j;simp only[A3,pM] at*;rw[K _ _ (by simp;omega)];by_cases O:j=off;subst O;rw[d9 (by omega),eS (by omega),rT,qD,pq (by omega)]
  .by_cases e2:off+1<=j/\j<off+1+vs.length
   .rw [eS e2,eS (by omega)];have:j - off=(j - (off+1))+1:=by omega
    rw[this];simp
   .rw [d9 e2,d9 (by omega),pe (by omega)]
theorem Yo{f:Av_}{o m:Nat}{ws us vs:Lv_}(hle:o+ws.length<=f.size)(Z:∀j w,ws[j]?=some w->f[o+j]?=some w)(K:vs=ws.take m++us++ws.drop (m+us.length))(hm:m+us.length<=ws.length):A3 f (o+m) us=A3 f o vs:=by
 have ac:vs.length=ws.length:=by subst K;simp;omega
 apply qm;intro j;rw[Ll us f (o+m) (by omega),Ll vs f o (by omega),ac];by_cases O:o+m<=j/\j<o+m+us.length;rw[eS O,eS (by omega)];subst K;rw[po (by simp;omega),pf (by simp;omega)];congr 1;simp;omega;rw[d9 O];by_cases U:o<=j/\j<o+ws.length;rw[eS U];have hw:ws[j - o]?=some ws[j - o]:=d6 (by omega);have:=Z _ _ hw;rw[show o+(j - o)=j by omega] at this;rw[this,← hw];subst K;rcases mt (j - o) m with Y | Y;rw[po (by simp;omega),po (by simp;omega),tg Y];rw[pf (by simp;omega),rJ];congr 1;simp;omega;rw[d9 U]
end
theorem elim_inl{K:Type}{f:α->Option K}{g:β->Option K}{x:α}{r:K}(h:Sum.elim f g (.inl x)=some r):f x=some r:=h
theorem elim_inr{K:Type}{f:α->Option K}{g:β->Option K}{x:β}{r:K}(h:Sum.elim f g (.inr x)=some r):g x=some r:=h
def room{α:Type}(xs:List α)(x:α):Option (List α):=if xs.length+1<=2^40 then some (xs++ [x]) else none
theorem Uv{xs ys:List α}{x:α}(h:room xs x=some ys):xs.length+1<=2^40/\ys=xs++ [x]:=by
 unfold room at h;split at h;rename_i hb;exact⟨hb,(f5 h).symm⟩;cases h
def Qy(a b:Int):Option Int:=if b=0 then none else some (a.tmod b)
def Qo(a b:Nat):Option Nat:=if b=0 then none else some (a%b)
section
variable {x:Operand}{v:Value}{m:Int}{a b:Nat}
theorem bT(K:ρ x=iV m)(O:ρ y=iV m')(h:Qy m m'=some r):Yl P ⟨d,.binOp .rem t x y u,ty,p,af,g⟩ ρ s (iV r):=by
 unfold Qy at h;split at h;cases h;rename_i U;cases h;exact Yl.rem K O U
theorem aA{r:Nat}(K:ρ x=.int .u64 (a:Int))(O:ρ y=.int .u64 (b:Int))(h:Qo a b=some r):Yl P ⟨d,.binOp .rem t x y u,ty,p,af,g⟩ ρ s (.int .u64 (r:Int)):=by
 unfold Qo at h;split at h;cases h;rename_i U;cases h;exact b7 K O U
theorem Yl.min2(K:ρ x=iV m)(O:ρ y=iV m'):Yl P ⟨d,.call ⟨.builtin .min,#[x,y],ats⟩,ty,p,af,g⟩ ρ s (iV (min m m')):=by
 have e:(if m'<m then m' else m)=min m m':=by split<;>omega
 simp[Yl,execOp,lp,pure,bind,Sem.bind,K,O,resolve,invoke,builtin,Builtin.min_,Builtin.min2,e]
theorem Yl.max2(K:ρ x=iV m)(O:ρ y=iV m'):Yl P ⟨d,.call ⟨.builtin .max,#[x,y],ats⟩,ty,p,af,g⟩ ρ s (iV (max m m')):=by
 have e:(if m<m' then m' else m)=max m m':=by split<;>omega
 simp[Yl,execOp,lp,pure,bind,Sem.bind,K,O,resolve,invoke,builtin,Builtin.max_,Builtin.max2,e]
end
def M6(P:Program):List Field->List (Nat×Nat)->Prop
 | f::K,(o,n)::ps=>f.offset=o/\Bp P f.type=some n/\M6 P K ps
 | [],[]=>True
 | _,_=>False
theorem M6.mapM{P:Program}:∀{K:List Field}{ps:List (Nat×Nat)},M6 P K ps->K.mapM (λf=>(Bp P f.type).map λn=>(f.offset,n))=some ps
 | [],[],_=>rfl
 | [],_::_,h=>h.elim
 | _::_,[],h=>h.elim
 | f::K,(o,n)::ps,h=>by
  obtain⟨O,U,Y⟩:=h
  simp only[sZ,bind,U,qH,Option.bind_some,M6.mapM Y,O];rfl
theorem Q8{L:Env}{ρ:Operand->Value}(h:FA L ρ):∀{l:List (Nat×Operand)}{vs:List (Nat×Value)},l.mapM (λq=>(ev L q.2).map λv=>(q.1,v))=some vs->l.map (λ(j,x)=>(j,ρ x))=vs
 | [],vs,e=>by simp at e;subst e;rfl
 | q::l,vs,e=>by
  simp only[sZ,bind] at e
  cases K:ev L q.2 with
  | none=>rw[K] at e;simp at e
  | some w=>
   rw[K] at e
   simp only[qH,Option.bind_some] at e
   let⟨Y,U,O⟩:=bind_some e
   simp at O;subst O
   simp[Q8 h U,h _ _ K]
theorem DR{P:Program}{s:St}{ρ:Operand->Value}{L:Env}{d:Option Tmp}{t ty:TypeId}{p:String}{af:Ae_}{g:On_}{z:Value}{K:Array Field}{vs:List (Nat×Value)}{cells:Av_}(places:List (Nat×Nat))(h:FA L ρ)(O:zeroOf P t=some z)(U:P.underlying t=some (.struct K))(Y:M6 P K.toList places)
  (Z:ps.toList.mapM (λq=>(ev L q.2).map λv=>(q.1,v))=some vs) (ac:LC (places.toArray[·]?) z.cells vs=some cells):Yl P ⟨d,.build t ps,ty,p,af,g⟩ ρ s (.agg cells):=
 Yl.build (places:=places.toArray) O U (by simpa using Y.mapM) (Q8 h Z) (by rw[fill_eq];exact ac)
theorem OL.again{e:TypeId}{pp:Rp α}{E:LH}{a:Option Addr}{bk o:Nat}{f:Av_}{xs:List α}{m:Int}{x:α}(O:OL e pp E a c [(bk,.cells f e (0,0))] xs)(hm:ix xs m=some x)(U:o=m.toNat*pp.n):
  ∃ws,pp.r E ws x/\(∀j w,ws[j]?=some w->f[o+j]?=some w)/\o+pp.n<=f.size/\∀(x':α) (ws':Lv_),pp.r E ws' x'->OL e pp E a c [(bk,.cells (A3 f o ws') e (0,0))] (xs.set m.toNat x'):=by
 obtain⟨m,rfl,hm⟩:=F8 hm;let⟨am,ap,ws,aq,K,Y,Z,ac,ag⟩:=OL.get O hm;simp only[sf,f4,Obj.cells.injEq,tH] at K;obtain⟨rfl,rfl⟩:=K;have ai:(m+1)*pp.n=m*pp.n+pp.n:=qy _ _;have al:o=m*pp.n:=by simpa using U
 subst al;exact⟨ws,Y,Z,by rw[← ai];exact ac,by simpa using ag⟩
section
variable {b:Frame}{n:Nat}
variable {x:Operand}{v:Value}{i:Nat}
theorem JS.app{pp:Rp α}{t1 t2:TypeId}{a:Option Addr}{xs ys:List α}{xv:α}{id:Nat}{O:TypeId}{U:String}{Y:Ae_}{z:Value}(j:Nat)(ai:room xs xv=some ys)
  (al:ops[i]?=some ⟨some d1,.buildSlice t2 1 #[(0,y)],O,U,Y,g'⟩) (hw:AY L ops ⟨some d1,.buildSlice t2 1 #[(0,y)],O,U,Y,g'⟩=some true) (am:BU b n ⟨some d1,.buildSlice t2 1 #[(0,y)],O,U,Y,g'⟩=true)
  (ap:ops[id]?=some ⟨d,.call ⟨.builtin .append,#[x,.tmp d1],ats⟩,ty,p,af,g⟩) (aq:∀w,AY (Ay L (some d1) w) ops ⟨d,.call ⟨.builtin .append,#[x,.tmp d1],ats⟩,ty,p,af,g⟩=some true) (av:BU b n ⟨d,.call ⟨.builtin .append,#[x,.tmp d1],ats⟩,ty,p,af,g⟩=true)
  (aw:∀w,ev (Ay L (some d1) w) x=some (.slice a xs.length c)) (ay:ev L y=some v) (az:ats[0]?=some t) (a0:ats[1]?=some t1) (a1:P.underlying t=some (.slice e)) (a2:P.underlying t1=some (.slice e)) (a3:P.underlying t2=some (.slice e)) (a4:Bp P e=some pp.n) (hb:FY P e=some sz) (a5:zeroOf P e=some z) (a6:z.cells.size=pp.n)
  (a7:0<sz) (a8:sz<=64) (a9:0<pp.n) (bb:pp.n<=64) (be:OL e pp E a c seg xs) (bi:pp.r E v.cells.toList xv) (bn:Aq E H S) (bo:S[j]?=some seg)
  (h:∀w ac ag seg',OL e pp E ac ag seg' ys->Aq E H (S.set j seg')->JL J Q b n (Ay (Ay L (some d1) w) d (.slice ac ys.length ag)) ds (.inRegion ops rest::k) cs (Aj E H (S.set j seg'))):
  JL J Q b n L ds (.inRegion ops (i::id::rest)::k) cs (Aj E H S):=by
 obtain⟨bv,rfl⟩:=Uv ai;exact TW j al hw am ap aq av aw ay az a0 a1 a2 a3 a4 hb a5 a6 a7 a8 a9 bb bv be bi bn bo h
theorem B7(K:S=S')(O:Aq E H S)(h:Aq E H S'->JL J Q b n L ds todo cs (Aj E H S')):JL J Q b n L ds todo cs (Aj E H S):=by
 subst K;exact h O
theorem Uz(K:Aq E H S)(h:Aq E H (S++ [[]])->JL J Q b n L ds todo cs (Aj E H (S++ [[]]))):JL J Q b n L ds todo cs (Aj E H S):=
 IL (S':=S++ [[]]) (by rw[GJ,pG]) K h
end
theorem Fh.M7{P:Program}{J:Judge P}{f:FuncId}{args:Av_}{s:St}{R:Value->St->Prop}(h:Fh J f args s R)(U:∀v s',R v s'->s'.q=false):Fh J f args s (λv s'=>R v s'/\∃w,Fits s' w):=λQ c cs Y=>
 h Q c cs λv s' K=>by
  by_cases O:∃w,Fits s' w;exact Y v s' ⟨K,O⟩;exact J.step ⟨V,λw f=>absurd ⟨w,f⟩ O,λe=>by have:=U v s' K;subst e;cases this⟩
def AI(l:List Nat):Nat->Bool:=λx=>l.contains x
variable{oi:Oper}
section
variable {b:Frame}{n m fuel:Nat}
variable {x:Operand}{v:Value}{i:Nat}
def GX(ops:Ao_)(listed:Array Bool)(m i:Nat):Bool:=match ops[i]? with
 | some oi=>decide (i<m)&&Region.noSelect ops&& !EM oi.op&&Jx ops listed i oi&&Ih ops listed&&listed.size==ops.size&&(Region.ready .any ops listed).contains i
 | none=>false
theorem bD(m:Nat){id:Nat}(hm:P.follows .mixedOrders=true)(K:(b.kind != .early)=true)
  (O:El ops m=true) (h:El ops m=true->AT J Q b n ds ops k cs m DG ops.size (Array.replicate ops.size false) L (Aj E H S)):JL J Q b n L ds (.code (.region id ops true)::k) cs (Aj E H S):=
 Rz m DG V hm K (h O)
theorem Uc{i:Nat}(hi:ops[i]?=some oi)(K:GX ops listed m i=true):decide (i<m)=true/\Region.noSelect ops=true/\(!EM oi.op)=true/\Jx ops listed i oi=true/\Ih ops listed=true/\(listed.size==ops.size)=true/\(Region.ready .any ops listed).contains i=true:=by
 simp only[GX,hi,gQ] at K;obtain⟨⟨⟨⟨⟨⟨O,U⟩,Y⟩,Z⟩,ac⟩,ag⟩,ai⟩:=K;exact⟨O,U,Y,Z,ac,ag,ai⟩
theorem JG.val(i:Nat)(hi:ops[i]?=some oi)(K:El ops m=true)(O:GX ops listed m i=true)(U:s.q=false)
  (hw:AY L ops oi=some true) (Y:Bo n oi.dst=true) (Z:∀ρ,FA L ρ->∀s':St,(∀x o,(BA D s).E x=some o->s'.E x=some o)->Yl P oi ρ s' v)
  (h:AT J Q b n ds ops k cs m D fuel (Bf listed i) (Ay L oi.dst v) s):AT J Q b n ds ops k cs m D (fuel+1) listed L s:=
 let ⟨ac,ag,ai,al,am,ap,aq⟩:=Uc hi O
 Zs hi ac K ag ai al am ap aq U hw Y (λρ av s' _ aw=>Z ρ av s' aw) h
theorem iP(i:Nat)(hi:ops[i]?=some oi)(K:El ops m=true)(O:GX ops listed m i=true)(U:s.q=false)
  (hw:AY L ops oi=some false) (Y:Bo n oi.dst=true)
  (h:AT J Q b n ds ops k cs m D fuel (Bf listed i) (Ay L oi.dst undef) s):AT J Q b n ds ops k cs m D (fuel+1) listed L s:=
 let ⟨Z,ac,ag,ai,al,am,ap⟩:=Uc hi O
 ZA hi Z K ac ag ai al am ap U hw Y h
theorem gk{pp:Rp α}{a:Option Addr}{xs:List α}{xv:α}{K:Int}(i:Nat)(Y:Ap pp E a c xs)(O:ix xs K=some xv)
  (Z:ops[i]?=some ⟨d,.indexAddr t x y,ty,p,af,g⟩) (ac:El ops m=true) (ag:GX ops listed m i=true) (ai:s.q=false)
  (hw:AY L ops ⟨d,.indexAddr t x y,ty,p,af,g⟩=some true) (al:Bo n d=true)
  (am:ev L x=some (.slice a xs.length c)) (ap:ev L y=some (.int kd K)) (aq:P.underlying t=some (.slice e)) (av:Bp P e=some pp.n)
  (h:∀bk o ws,pp.r E ws xv->At E bk o ws->AT J Q b n ds ops k cs m D fuel (Bf listed i) (Ay L d (.pointer (some ⟨bk,o,none⟩))) s):
  AT J Q b n ds ops k cs m D (fuel+1) listed L s:=by
 obtain⟨K,rfl,O⟩:=F8 O;have aw:K<xs.length:=(fx.1 O).1;obtain⟨a1,⟨rfl,_⟩ | ⟨bk,off,rfl,ay⟩⟩:=Y;simp at aw
 let⟨ws,az,a0⟩:=ay K xv O;refine JG.val (v:=.pointer (some ⟨bk,off+K*pp.n,none⟩)) i Z ac ag ai hw al (λρ U s' _=>?_) (h bk _ ws az a0);have:=OR (P:=P) (s:=s') (d:=d) (ty:=ty) (p:=p) (af:=af) (g:=g) aq av (U x _ am) (U y _ ap) ⟨by omega,by omega⟩;rw[Ek rfl] at this;simpa using this
theorem JG.call{f:FuncId}{vs:Lv_}(Y:A6 J f vs E [] R)(Z:Region.ready .any ops listed=[i])
  (ac:ops[i]?=some ⟨d,.call ⟨.value (.func f),args,ats⟩,ty,p,af,g⟩) (ag:Bo n d=true) (hw:AY L ops ⟨d,.call ⟨.value (.func f),args,ats⟩,ty,p,af,g⟩=some true) (hb:Ef P f=true) (ai:evs L args.toList=some vs) (al:Aq E H S)
  (am:∀v E' seg',Le E E'->R v E' seg'->Aq E' H (S++ [seg'])->AT J Q b n ds ops k cs m DG fuel (Bf listed i) (Ay L d v) (Aj E' H (S++ [seg']))):
  AT J Q b n ds ops k cs m DG (fuel+1) listed L (Aj E H S):=by
 have ap:=Fh.M7 (Y (Bn S.flatten H) trivial) (by rintro v s' ⟨E',B',_,_,_,rfl⟩;rfl);refine AT.call V Z ac ag hw hb ai ap ?_;rintro v a1 ⟨⟨E',B',hle,aq,av,rfl⟩,w,aw⟩;have e2:mk E' (Bn S.flatten H) B'=mk E' H (B'++S.flatten):=by unfold mk;rw[Gq]
 have ay:Nd E' H S.flatten:=Nd.grow al λx K=>by
  have az:=aw.d x K;have a0:Bn B' (Bn S.flatten H) x=none:=az;exact(IE a0).1
 have O:Nd E' H (B'++S.flatten):=Nd.glue av ay;have U:(B'++S.flatten).Perm (S++ [B']).flatten:=by rw[GJ];exact pr
 rw[e2,FH O U];exact⟨V,λx o K=>hle x o K,am v E' B' hle aq (Nd.perm O U)⟩
end
theorem PY{E H:LH}{S:List Seg}{bk:Nat}{o:Obj}(K:Aq E H S)(O:S[j]?=some ((bk,o)::seg)):E bk=none:=by
 have hm:(bk,o)∈S.flatten:=rg.2 ⟨_,pC O,by simp⟩;exact((Nd.iff.1 K).2 _ hm).1
def LF{α:Type}(n:Int)(z:α):Option (List α):=if 0<=n/\n<=2^20 then some (List.replicate n.toNat z) else none
def Ey{α:Type}(xs ys:List α):Option (List α):=if xs.length+ys.length<=2^40 then some (xs++ys) else none
def HT{α:Type}(xs:List α)(lo hi:Int):Option (List α):=if 0<=lo/\lo<=hi/\hi<=xs.length then some ((xs.take hi.toNat).drop lo.toNat) else none
section
variable {x:Operand}{v:Value}{m:Int}{a b:Nat}
end
variable {L':Env}
variable{ax:Option Addr}{cx:Nat}
section
variable {b:Frame}{n:Nat}
variable {x:Operand}{v:Value}{i:Nat}
theorem Zx{ρ:Operand->Value}:execOp ρ ⟨d,.makeSlice t x y,ty,p,af,g⟩=(do pure (Next.value (← Instr.makeSlice t (ρ x) (ρ y)))):=by
 simp only[execOp]
theorem QV{α:Type}(w:List α):∀m:Nat,((List.replicate m w).flatten).length=m*w.length
 | 0=>by simp
 | m+1=>by rw[sb,pY,pA,QV w m,qy,tf]
theorem ae(z:Av_)(O:0<z.size):∀m:Nat,((Array.range (m*z.size)).map (z[· % z.size]!)).toList=(List.replicate m z.toList).flatten:=by
 intro m;apply qN;intro j;simp only[sI,Array.toList_range,qe];by_cases K:j<m*z.size
 .rw [rC K];have Y:j/z.size<m:=(Nat.div_lt_iff_lt_mul O).2 K;have U:j%z.size<z.size:=sE _ O;have hw:(List.replicate m z.toList)[j/z.size]?=some z.toList:=by simp[Y]
  have:=Li (n:=z.size) (wss:=List.replicate m z.toList) (λws Z=>by rw[rc Z];simp) hw (j%z.size) z[j%z.size] (by simp[U]);rw[show j/z.size*z.size+j%z.size=j from by rw[Nat.mul_comm];exact Nat.div_add_mod _ _] at this;rw[this];simp[U]
 .have hlen:((List.replicate m z.toList).flatten).length=m*z.size:=by rw[QV];simp
  rw[pU (by simpa using K),pU (by rw[hlen];omega)];rfl
theorem JS.make{pp:Rp α}{z:Value}{Z:α}{m:Int}{xs:List α}(U:LF m Z=some xs)
  (aq:ops[i]?=some ⟨d,.makeSlice t x y,ty,p,af,g⟩) (hw:AY L ops ⟨d,.makeSlice t x y,ty,p,af,g⟩=some true) (av:BU b n ⟨d,.makeSlice t x y,ty,p,af,g⟩=true)
  (aw:ev L x=some (iV m)) (Y:ev L y=some (iV m)) (ay:P.underlying t=some (.slice e)) (az:Bp P e=some pp.n) {O:Nat}(hb:FY P e=some O) (bb:O<=64) (a0:zeroOf P e=some z) (be:0<pp.n) (ac:pp.r E z.cells.toList Z) (a1:Aq E H S)
  (h:∀r seg,OL e pp E (some ⟨r,0,none⟩) xs.length seg xs->Aq E H (S++ [seg])->JL J Q b n (Ay L d (.slice (some ⟨r,0,none⟩) xs.length xs.length)) ds (.inRegion ops rest::k) cs (Aj E H (S++ [seg]))):
  JL J Q b n L ds (.inRegion ops (i::rest)::k) cs (Aj E H S):=by
 unfold LF at U;split at U
 rotate_left
 .cases U
 rename_i hm;cases U;refine JL.op aq hw av λρ ag=>?_;rw[Zx,ag x _ aw,ag y _ Y];refine Az _ _ ?_;unfold Instr.makeSlice;refine Az _ _ (CG ay ?_);simp only[asInt,IF];let⟨inf,a2,a3⟩:=Q9 hb;refine Az (x:=typeInfo e) _ (Lf a2 ?_);simp only[a3,KH (show -9223372036854775808<=m/\m<=9223372036854775807 by omega)];have bi:(O:Int)*m<=64*2^20:=by
  have ai:(O:Int)*m<=64*m:=Int.mul_le_mul_of_nonneg_right (by omega) hm.1;omega
 have a4:((decide (m<0) || decide ((O:Int)*m>2^48)) || decide (m<0) || decide (m>m))=false:=by
  simp only[Bool.or_eq_false_iff,tq];omega
 rw[a4];simp only[px,qp];refine Az (x:=askRoom _) _ ?_;have a5:∀{Q:Unit->St->Prop}{X:Halt->St->Prop}(w:Nat),Q () (Aj E H S)->lp P (askRoom w) (Aj E H S) Q X:=by
  intro Q X w al;unfold askRoom;split;exact⟨.inl ⟨V,V⟩,al⟩;exact al
 refine a5 _ (Az (x:=Go.sizeOf e) _ (Fp az ?_));have am:z.cells.size=pp.n:=by simpa using pp.len ac
 have fin:∀K:Av_,((Array.range (m.toNat*pp.n)).map (K[· % K.size]!)).toList=(List.replicate m.toNat z.cells.toList).flatten->lp P (do let a ← newRow e ((Array.range (m.toNat*pp.n)).map (K[· % K.size]!));pure (Value.slice (some a) m.toNat m.toNat)) (Aj E H S) (λa s'=>lp P (pure (Next.value a)) s' (λa6 s'=>match a6 with
   | .value v=>JL J Q b n (Ay L d v) ds (.inRegion ops rest::k) cs s'
   | .skip=>JL J Q b n (Ay L d undef) ds (.inRegion ops rest::k) cs s'
   | _=>False) (λ_ _=>False)) (λ_ _=>False):=by
  intro K a7;refine Az _ _ (J8 a1 λr ap=>?_);rw[(F4 ap).1];have bn:((Array.range (m.toNat*pp.n)).map (K[· % K.size]!)).size=m.toNat*pp.n:=by simp
  have:=h r _ ⟨List.replicate m.toNat z.cells.toList,.inr ⟨r,_,rfl,rfl,by simp,by simp,by
   rw[a7,qJ (by rw[QV];simp[am])]⟩,by simp,λi y us Y hu=>by
    have:=pC Y;have a8:=rc this
    have:=pC hu;have e2:=rc this
    subst a8 e2;exact ac⟩ (F4 ap).2
  simp only[rU] at this;exact this
 split
 .rename_i a9;have ai:m.toNat=0:=by rcases Nat.mul_eq_zero.1 a9 with h | h<;>omega
  exact fin #[] (by simp[ai])
 .refine Az (x:=zeroValue e) _ (H8 a0 ?_);refine fin z.cells ?_;rw[← am];exact ae z.cells (by omega) _
theorem VV{pp:Rp α}(O:ops[i]?=some ⟨d,.buildSlice t 0 #[],ty,p,af,g⟩)(hw:AY L ops ⟨d,.buildSlice t 0 #[],ty,p,af,g⟩=some true)(U:BU b n ⟨d,.buildSlice t 0 #[],ty,p,af,g⟩=true)
  (Y:P.underlying t=some (.slice e)) (Z:Bp P e=some pp.n) (ac:Aq E H S)
  (h:∀r seg,OL e pp E (some ⟨r,0,none⟩) 0 seg []->Aq E H (S++ [seg])->JL J Q b n (Ay L d (.slice (some ⟨r,0,none⟩) 0 0)) ds (.inRegion ops rest::k) cs (Aj E H (S++ [seg]))):
  JL J Q b n L ds (.inRegion ops (i::rest)::k) cs (Aj E H S):=by
 refine JL.op O hw U λρ ai=>?_;rw[Up];refine Az _ _ ?_;unfold Instr.buildSlice;refine Az _ _ (CG Y ?_);refine Az _ _ (Fp Z ?_);rw[d9 (by omega),eS (by omega)];refine Az (x:=pure #[]) _ ?_;simp only[lp,pure,List.map_toArray,th,Instr.fill];refine Az _ _ (J8 ac λr K=>?_);rw[(F4 K).1];exact h r _ ⟨[],.inr ⟨r,_,V,V,by simp,no _,by simp⟩,V,λi x ws ag=>by simp at ag⟩ (F4 K).2
theorem Ap.rows{pp:Rp α}{a:Option Addr}{xs:List α}(U:Ap pp E a c xs):∃wss:List (Lv_),wss.length=xs.length/\(∀(i:Nat) x ws,xs[i]?=some x->wss[i]?=some ws->pp.r E ws x)/\
  ((xs=[]/\∀ad:Addr,a=some ad->ad.spot=none∨c=0)∨∃bk off,a=some ⟨bk,off,none⟩/\∀(i:Nat) ws,wss[i]?=some ws->At E bk (off+i*pp.n) ws):=by
 obtain⟨ag,U⟩:=U;rcases U with⟨rfl,Z⟩ | ⟨bk,off,rfl,ac⟩;exact⟨[],V,λi x ws O=>by simp at O,.inl ⟨V,Z⟩⟩
 .have Y:∀i:Fin xs.length,∃ws,pp.r E ws xs[i]/\At E bk (off+i*pp.n) ws:=λi=>ac i xs[i] (d6 i.2);refine⟨List.ofFn λi=>Classical.choose (Y i),by simp,λi x ws O hw=>?_,.inr ⟨bk,off,V,λi ws hw=>?_⟩⟩;have K:i<xs.length:=(fx.1 O).1;simp[K] at hw;subst hw;rw[d6 K] at O;cases O;exact(qG (Y ⟨i,K⟩)).1
  .have K:i<xs.length:=by have:=(fx.1 hw).1;simpa using this
   simp[K] at hw;subst hw;exact(qG (Y ⟨i,K⟩)).2
theorem Nn{n:Nat}:∀{wss:List (Lv_)},(∀ws∈wss,ws.length=n)->wss.flatten.length=wss.length*n
 | [],_=>by simp
 | ws::wss,h=>by rw[pY,pA,h ws (by simp),Nn λw hw=>h w (f7 _ hw),pM,qy,tf]
theorem QX{n:Nat}:∀{wss:List (Lv_)},(∀ws∈wss,ws.length=n)->∀{j:Nat}{w:Value},wss.flatten[j]?=some w->∃(i m:Nat) (ws:Lv_),wss[i]?=some ws/\ws[m]?=some w/\j=i*n+m
 | [],_,_,_,h=>by simp at h
 | us::wss,O,j,w,h=>by
  have hu:=O us (by simp)
  rw[pY] at h
  rcases mt j us.length with K | K
  .rw [po K] at h
   exact⟨0,j,us,V,h,by simp⟩
  .rw [pf K] at h;let⟨i,m,ws,U,Y,Z⟩:=QX (λws hw=>O ws (f7 _ hw)) h;exact⟨i+1,m,ws,by simpa using U,Y,by rw[qy];omega⟩
theorem OI{pp:Rp α}{O:List (Lv_)}{xs ys:List α}(U:wss.length=xs.length)(h:∀(i:Nat) x ws,xs[i]?=some x->wss[i]?=some ws->pp.r E ws x)(Y:∀(i:Nat) x ws,ys[i]?=some x->O[i]?=some ws->pp.r E ws x):
  ∀(i:Nat) y us,(xs++ys)[i]?=some y->(wss++O)[i]?=some us->pp.r E us y:=by
 intro i y us K hu;rcases mt i xs.length with hi | hi;rw[po hi] at K;rw[po (by omega)] at hu;exact h i y us K hu;rw[pf hi] at K;rw[pf (by omega),U] at hu;exact Y _ y us K hu
theorem YU{e t t1:TypeId}{aw l m:Nat}{a:Option Addr}{blk:List (Nat×Obj)}{xs ys:Lv_}{i:Nat}{rest:List Nat}{d:Option Tmp}{x y:Operand}{ty:TypeId}{p:String}{af:Ae_}{g:On_}{z:Value}{B1:List (Nat×Obj)}
  (a6:ops[i]?=some ⟨d,.call ⟨.builtin .append,#[x,y],ats⟩,ty,p,af,g⟩) (hw:AY L ops ⟨d,.call ⟨.builtin .append,#[x,y],ats⟩,ty,p,af,g⟩=some true) (a7:BU b n ⟨d,.call ⟨.builtin .append,#[x,y],ats⟩,ty,p,af,g⟩=true)
  (a8:ev L x=some (.slice a l c)) (a9:ev L y=some (.slice ax m cx)) (bb:ats[0]?=some t) (be:ats[1]?=some t1) (bi:P.underlying t=some (.slice e)) (bn:P.underlying t1=some (.slice e)) (bo:Bp P e=some sz) (hb:FY P e=some aw) (bv:zeroOf P e=some z) (bw:z.cells.size=sz)
  (bx:0<aw) (bz:aw<=64) (b0:l+m<=2^40) (b1:∀w∈ys,C5 w=true) (ap:GS e sz a l c blk xs) (ay:Nd E H (B0++blk++B1)) (az:Ik (mk E H (B0++blk++B1)) (.slice ax m cx) sz ys)
  (h:∀a3 aq a0,GS e sz a3 (l+m) aq a0 (xs++ys)->Nd E H (B0++a0)->JL J Q b n (Ay L d (.slice a3 (l+m) aq)) ds (.inRegion ops rest::k) cs (mk E H (B0++a0))):
  JL J Q b n L ds (.inRegion ops (i::rest)::k) cs (mk E H (B0++blk++B1)):=by
 refine JL.op a6 hw a7 λρ a4=>?_;rw[Nm,a4 x _ a8,a4 y _ a9];have b2:Ql (B0++blk++B1) B0.length e sz a l c xs:=by
  rcases ap with⟨K,Y,ag,ai,Z⟩ | ⟨bk,f,K,Y,ag,ai,Z⟩;exact .inl ⟨K,Y,ag,Z⟩;refine .inr ⟨bk,f,K,?_,ag,ai,Z⟩;subst Y;simp
 have hlen:=ap.length;refine Az _ _ (Re (pl:=B0.length) bb be bn bi bo hb bv bw ay b2 az b1 bx b0 bz ?_ ?_ ?_)
 ·
  intro bk f O av cc ce b3 a1 a2 ac;rcases ap with⟨K,_⟩ | ⟨U,f0,K,Y,ag,ai,Z⟩;rw[K] at av;cases av
  .subst Y;have b4:U=bk:=by rw[K] at av;simpa using av
   subst b4;have b5:(B0++ [(U,Obj.cells f0 e (0,0))]++B1).set B0.length (U,.cells O e (0,0))=B0++ [(U,.cells O e (0,0))]++B1:=by
    rw[pF,pF];exact IQ _ _ _ _
   rw[b5] at ac ⊢;have al:Nd E H (B0++ [(U,.cells O e (0,0))]):=Lh.Nd.left ac;refine JL.drop (B0++ [(U,.cells O e (0,0))]) (λp am=>?_) ac (h a c _ (.inr ⟨U,O,K,V,a1,b3,a2.symm⟩) al);exact pS.1 (p9 _ am)
 .intro a5 hm;rcases ap with⟨K,Y,ag,ai,Z⟩ | ⟨U,f0,K,_⟩
  .subst hm;have b6:ys=[]:=by
    cases ax with
    | none=>exact az.2
    | some ad=>have:=az.2.1;simp at this;exact this
   subst Y ai Z b6;have al:Nd E H (B0++ []):=Lh.Nd.left ay;exact JL.drop (B0++ []) (λp am=>pS.1 (p9 _ am)) ay (h none 0 [] (by simpa using GS.nil) al)
  .rw [K] at a5;cases a5
 ·
  intro r O aq ca a1 a2 ac;have al:Nd E H (B0++ [(r,.cells O e (0,0))]):=Lh.Nd.pick ac;refine JL.drop (B0++ [(r,.cells O e (0,0))]) (λp am=>?_) ac (h (some ⟨r,0,none⟩) aq _ (.inr ⟨r,O,V,V,a1,ca,a2.symm⟩) al);refine pS.1 ?_;rcases pg.1 am with q | q;simp[q];exact qd _ q
theorem KM{pp:Rp α}{t1:TypeId}{ai:Nat}{a:Option Addr}{xs ys al:List α}{z:Value}(j:Nat)(Y:Ey xs ys=some al)
  (a1:ops[i]?=some ⟨d,.call ⟨.builtin .append,#[x,y],ats⟩,ty,p,af,g⟩) (hw:AY L ops ⟨d,.call ⟨.builtin .append,#[x,y],ats⟩,ty,p,af,g⟩=some true) (a2:BU b n ⟨d,.call ⟨.builtin .append,#[x,y],ats⟩,ty,p,af,g⟩=true)
  (a3:ev L x=some (.slice a xs.length c)) (a4:ev L y=some (.slice ax ys.length cx)) (a5:ats[0]?=some t) (a6:ats[1]?=some t1) (a7:P.underlying t=some (.slice e)) (a8:P.underlying t1=some (.slice e)) (a9:Bp P e=some pp.n) (hb:FY P e=some ai) (bb:zeroOf P e=some z) (be:z.cells.size=pp.n)
  (bi:0<ai) (bn:ai<=64) (am:OL e pp E a c seg xs) (aq:Ap pp E ax cx ys) (bo:Aq E H S) (av:S[j]?=some seg)
  (h:∀Z ac seg',OL e pp E Z ac seg' al->Aq E H (S.set j seg')->JL J Q b n (Ay L d (.slice Z al.length ac)) ds (.inRegion ops rest::k) cs (Aj E H (S.set j seg'))):
  JL J Q b n L ds (.inRegion ops (i::rest)::k) cs (Aj E H S):=by
 unfold Ey at Y;split at Y
 rotate_left
 .cases Y
 rename_i bv;cases Y;obtain⟨wss,am,aw,bw⟩:=am;let⟨bx,ay⟩:=HI bo av;obtain⟨ag,O,ap,U⟩:=aq.rows;have az:=IN O ap;rw[bx];have bz:∀w∈ag.flatten,C5 w=true:=λw hw=>by
  let⟨us,b0,hw⟩:=rg.1 hw;let⟨q,K⟩:=pS.1 b0;have b1:q<ys.length:=by rw[← O];exact(fx.1 K).1
  exact pp.one (ap q _ us (d6 b1) K) w hw
 have hlen:(xs++ys).length=xs.length+ys.length:=by simp
 have a0:Ik (mk E H ((S.set j []).flatten++seg)) (.slice ax ys.length cx) pp.n ag.flatten:=by
  rcases U with⟨U,co⟩ | ⟨bk,off,rfl,U⟩
  .subst U;have:ag=[]:=pL O;subst this;cases ax with
   | none=>exact⟨rfl,rfl⟩
   | some ad=>exact⟨.inr rfl,by simp,qc _,λq w K=>by simp at K⟩
  .refine⟨.inl V,by rw[Nn az,O],aq.1,λq w K=>?_⟩;let⟨b2,m,ws,b3,e2,b4⟩:=QX az K;have:=(U b2 ws b3).cell (H:=H) (B:=(S.set j []).flatten++seg) e2;subst b4;rw[← rt];exact this
 have b5:(S.set j []).flatten++seg=(S.set j []).flatten++seg++ []:=(pG _).symm;rw[b5] at ay a0 ⊢;refine YU a1 hw a2 a3 a4 a5 a6 a7 a8 a9 hb bb be bi bn bv bz am ay a0 λZ ac b6 ca cc=>?_;let⟨ce,ci⟩:=Kg av cc;rw[ce];have:=h Z ac b6 ⟨wss++ag,by rw[hlen,qR];exact ca,by simp[aw,O],OI aw bw ap⟩ ci;rw[hlen] at this;exact this
end
section
variable {b:Frame}{n m fuel:Nat}
variable {x:Operand}{v:Value}{i:Nat}
theorem Dz(h:Sub L' L)(k':AT J Q b n ds ops k cs m D fuel listed L' s):AT J Q b n ds ops k cs m D fuel listed L s:=λT K=>k' T (K.sub h)
theorem F5{O:Array Bool}(fuel:Nat)(listed:Array Bool)(I:Env->St->Prop)(U:∀L s,I L s->AT J Q b n ds ops k cs m D fuel listed L s)(h:(∀L s,I L s->AT J Q b n ds ops k cs m D fuel listed L s)->AT J Q b n ds ops k cs m D sz O L s):AT J Q b n ds ops k cs m D sz O L s:=h U
end
variable{kk:Nat}
theorem iy{pp:Rp α}{E:LH}{bk o:Nat}{ws:Lv_}{xs:List α}{m:Int}{x:α}(O:(rA kk pp).r E ws xs)(h:At E bk o ws)(hm:ix xs m=some x):∃us,pp.r E us x/\At E bk (o+m.toNat*pp.n) us/\0<=m/\m<kk:=by
 obtain⟨U,wss,rfl,Y,K⟩:=O;obtain⟨m,rfl,hm⟩:=F8 hm;have ag:m<xs.length:=(fx.1 hm).1;have hw:wss[m]?=some wss[m]:=d6 (by omega);refine⟨wss[m],K m x _ hm hw,?_,by omega,by omega⟩;obtain⟨f,e,fr,Z,g2⟩:=h;refine⟨f,e,fr,Z,λj w ac=>?_⟩;rw[rt];exact g2 _ _ (Li (IN (Y.trans U.symm) K) hw j w ac)
variable {v':Value}
section
variable {x:Operand}{v:Value}
end
section
variable {b:Frame}{n:Nat}
variable {x:Operand}{i:Nat}
end
variable{X:Halt->St->Prop}
section
variable {x:Operand}{v:Value}
theorem Zn{o:BinOp}{c K:Av_}(O:o=.eql∨o=.neq)(U:P.eqGuardType P.depth t=false){Q:Unit->St->Prop}(k:Q () s):lp P (eqGuard o t x y (.agg c) (.agg K)) s Q X:=by
 rcases O with rfl | rfl<;>(simp[eqGuard,lp,bind,Sem.bind,program,pure,U];exact k)
end
section
variable (J:Judge P)(Q:Gs_)(b:Frame)(n:Nat)(ds:Ld_)(ops:Ao_)(k:Li_)(cs:Lf_)(m:Nat)(D:Nat->Bool)
def Take(fuel:Nat)(listed:Array Bool)(L:Env)(s:St)(i:Nat):Prop:=
 ∃o,ops[i]?=some o/\(!EM o.op)=true/\Bo n o.dst=true/\AY L ops o=some true/\∀ρ,FA L ρ->lp P (execOp ρ o) (BA D s) (λO s'=>match O with
  | .value v=>AT J Q b n ds ops k cs m D fuel (Bf listed i) (Ay L o.dst v) (CB D s s')
  | .skip=>AT J Q b n ds ops k cs m D fuel (Bf listed i) (Ay L o.dst undef) (CB D s s')
  | .enter f args=>∃R,Fh J f args (CB D s s') R/\∀v K,R v K->K.q=false/\(∀x o,(BA D s).E x=some o->(BA D K).E x=some o)/\AT J Q b n ds ops k cs m D fuel (Bf listed i) (Ay L o.dst v) K
  | _=>False) (λ_ _=>False)
end
section
variable {b:Frame}{n m fuel:Nat}
variable {x:Operand}{v:Value}{i:Nat}
theorem QZ(U:s.q=false){l:List Nat}(K:Region.ready .any ops listed=l)(Y:l≠ [])(h:∀i∈l,Take J Q b n ds ops k cs m D fuel listed L s i):AT J Q b n ds ops k cs m D (fuel+1) listed L s:=
 UF U (by rw[K];exact Y) λi hi o O=>by
  rw[K] at hi
  let⟨o',Z,ac,ag,ai,al⟩:=h i hi
  obtain rfl:o'=o:=by rw[Z] at O;exact f5 O
  exact⟨ac,ag,true,ai,λe=>(by cases e),λ_=>al⟩
theorem JG.one(K:s.q=false)(O:Region.ready .any ops listed=[i])(h:Take J Q b n ds ops k cs m D fuel listed L s i):AT J Q b n ds ops k cs m D (fuel+1) listed L s:=
 QZ K O (by simp) (by simpa using h)
theorem GL{i:Nat}(K:s.q=false)(O:Region.ready .any ops listed=[i,j])(hi:Take J Q b n ds ops k cs m D fuel listed L s i)(U:Take J Q b n ds ops k cs m D fuel listed L s j):AT J Q b n ds ops k cs m D (fuel+1) listed L s:=
 QZ K O (by simp) (by intro q K;simp at K;rcases K with rfl | rfl<;>assumption)
end
theorem OL.iq{e:TypeId}{pp:Rp α}{E H:LH}{S:List Seg}{a:Option Addr}{xs:List α}(U:OL e pp E0 a c seg xs)(ac:Aq E H S)(ag:S[j]?=some seg):∃wss:List (Lv_),Ik (Aj E H S) (.slice a xs.length c) pp.n wss.flatten/\wss.length=xs.length/\∀(i:Nat) x ws,xs[i]?=some x->wss[i]?=some ws->pp.r E0 ws x:=by
 obtain⟨wss,U,ai,al⟩:=U;refine⟨wss,?_,ai,al⟩;rcases U with⟨rfl,am,Z,Y,K⟩ | ⟨bk,f,rfl,rfl,Z,Y,K⟩;exact⟨am,K⟩
 .have hle:xs.length*pp.n<=f.size:=by rw[Z];exact qi _ Y
  refine⟨.inl V,by rw[K];simp[hle],Y,λq w O=>?_⟩;rw[K,qI] at O;split at O;refine B6 ac ag ?_;simpa using O;cases O
section
variable {x:Operand}
theorem cQ{ρ:Operand->Value}{pp:Rp α}{t1:TypeId}{a0:Nat}{a:Option Addr}{xs ys a1:List α}{z:Value}(j:Nat)(aw:Ey xs ys=some a1)
  (bi:ρ x=.slice a xs.length c) (bn:ρ y=.slice ax ys.length cx) (bo:ats[0]?=some t) (bv:ats[1]?=some t1) (bw:P.underlying t=some (.slice e)) (bx:P.underlying t1=some (.slice e)) (bz:Bp P e=some pp.n) (hb:FY P e=some a0) (b0:zeroOf P e=some z) (b1:z.cells.size=pp.n)
  (b2:0<a0) (b3:a0<=64) (aq:OL e pp E0 a c seg xs) (b4:∃Z:List (Lv_),Ik (Aj E H S) (.slice ax ys.length cx) pp.n Z.flatten/\Z.length=ys.length/\∀(i:Nat) x ws,ys[i]?=some x->Z[i]?=some ws->pp.r E0 ws x) (b5:Aq E H S) (a7:S[j]?=some seg)
  (h:∀Y O g seg',OL e pp E0 Y O seg' a1->Aq E H (S.set j (g++seg'))->K (.value (.slice Y a1.length O)) (Aj E H (S.set j (g++seg')))):
  lp P (execOp ρ ⟨d,.call ⟨.builtin .append,#[x,y],ats⟩,ty,p,af,g⟩) (Aj E H S) K (λ_ _=>False):=by
 unfold Ey at aw;split at aw
 rotate_left
 .cases aw
 rename_i b6;cases aw;obtain⟨Z,a8,ay,a2⟩:=b4;obtain⟨wss,aq,a9,ca⟩:=aq;let⟨cc,a3⟩:=HI b5 a7;have ce:=IN ay a2;have ci:∀w∈Z.flatten,C5 w=true:=λw hw=>by
  let⟨us,co,hw⟩:=rg.1 hw;let⟨q,bb⟩:=pS.1 co;have cp:q<ys.length:=by rw[← ay];exact(fx.1 bb).1
  exact pp.one (a2 q _ us (d6 cp) bb) w hw
 have hlen:(xs++ys).length=xs.length+ys.length:=by simp
 rw[cc] at a8 ⊢;rw[Nm,bi,bn];have a4:∀{Y O seg'},GS e pp.n Y (xs.length+ys.length) O seg' (wss.flatten++Z.flatten)->OL e pp E0 Y O seg' (xs++ys):=λct=>
  ⟨wss++Z,by rw[hlen,qR];exact ct,by simp[a9,ay],OI a9 ca a2⟩
 have fin:∀Y O g seg',OL e pp E0 Y O seg' (xs++ys)->Nd E H ((S.set j []).flatten++(g++seg'))->K (.value (.slice Y (xs.length+ys.length) O)) (mk E H ((S.set j []).flatten++(g++seg'))):=λY O g seg' cw ag=>by
  let⟨cy,c0⟩:=Kg a7 ag;rw[cy];have:=h Y O g seg' cw c0;rw[hlen] at this;exact this
 have c1:Ql ((S.set j []).flatten++seg) (S.set j []).flatten.length e pp.n a xs.length c wss.flatten:=by
  rcases aq with⟨U,ac,av,al,am⟩ | ⟨bk,f,U,ac,av,al,am⟩;exact .inl ⟨U,ac,av,am⟩;refine .inr ⟨bk,f,U,?_,av,al,am⟩;subst ac;simp
 refine Az _ _ (Re (pl:=(S.set j []).flatten.length) bo bv bx bw bz hb b0 b1 a3 c1 a8 ci b2 b6 b3 ?_ ?_ ?_)
 .intro bk f ai az c8 c9 c2 a5 a6 ag;rcases aq with⟨U,_⟩ | ⟨ap,f0,U,ac,av,al,am⟩;rw[U] at az;cases az
  .subst ac;have c3:ap=bk:=by rw[U] at az;simpa using az
   subst c3;have c4:((S.set j []).flatten++ [(ap,Obj.cells f0 e (0,0))]).set (S.set j []).flatten.length (ap,.cells ai e (0,0))=(S.set j []).flatten++ [(ap,.cells ai e (0,0))]:=IQ _ _ _ _;rw[c4] at ag ⊢;exact fin a c [] _ (a4 (.inr ⟨ap,ai,U,V,a5,c2,a6.symm⟩)) ag
 intro be hm;rcases aq with⟨U,ac,av,al,am⟩ | ⟨ap,f0,U,_⟩;have c5:Z.flatten=[]:=pL (by rw[Nn ce,ay,hm];simp);have:=fin none 0 [] [] (a4 (by rw[ac,hm,am,c5];exact GS.nil)) (by rw[al] at a3;simpa using a3);rw[ac,hm] at this;rw[al];simp only[pG] at this ⊢;exact this;rw[U] at be;cases be;intro r ai O c6 a5 a6 ag;have c7:(S.set j []).flatten++seg++ [(r,Obj.cells ai e (0,0))]=(S.set j []).flatten++(seg++ [(r,.cells ai e (0,0))]):=pF _ _ _;rw[c7] at ag ⊢;exact fin (some ⟨r,0,none⟩) O seg _ (a4 (.inr ⟨r,ai,V,V,a5,c6,a6.symm⟩)) ag
theorem cJ{ρ:Operand->Value}{pp:Rp α}{t1:TypeId}{a:Option Addr}{Y:Seg}{xs ys U:List α}{z:Value}(j ai:Nat)(al:Ey xs ys=some U)
  (am:ρ x=.slice a xs.length c) (ap:ρ y=.slice ax ys.length cx) (aq:ats[0]?=some t) (av:ats[1]?=some t1) (aw:P.underlying t=some (.slice e)) (ay:P.underlying t1=some (.slice e)) (az:Bp P e=some pp.n) (hb:FY P e=some sz) (a0:zeroOf P e=some z) (a1:z.cells.size=pp.n)
  (a2:0<sz) (a3:sz<=64) (a4:OL e pp E0 a c seg xs) (a5:OL e pp E0 ax cx Y ys) (Z:Aq E H S) (a6:S[j]?=some seg) (a7:S[ai]?=some Y)
  (h:∀ac ag g seg',OL e pp E0 ac ag seg' U->Aq E H (S.set j (g++seg'))->K (.value (.slice ac U.length ag)) (Aj E H (S.set j (g++seg')))):
  lp P (execOp ρ ⟨d,.call ⟨.builtin .append,#[x,y],ats⟩,ty,p,af,g⟩) (Aj E H S) K (λ_ _=>False):=
 cQ j al am ap aq av aw ay az hb a0 a1 a2 a3 a4 (a5.iq Z a7) Z a6 h
end
section
variable {b:Frame}{n m fuel:Nat}
variable {x:Operand}{v:Value}{i:Nat}
end
section
variable {b:Frame}{n m fuel:Nat}
variable {x:Operand}{v:Value}{i:Nat}
theorem Take.Oi(hi:ops[i]?=some oi)(K:(!EM oi.op&&Bo n oi.dst)=true)(hw:AY L ops oi=some true)
  (h:∀ρ,FA L ρ->lp P (execOp ρ oi) s (λO s'=>match O with
   | .value v=>AT J Q b n ds ops k cs m DG fuel (Bf listed i) (Ay L oi.dst v) s'
   | .skip=>AT J Q b n ds ops k cs m DG fuel (Bf listed i) (Ay L oi.dst undef) s'
   | _=>False) (λ_ _=>False)):Take J Q b n ds ops k cs m DG fuel listed L s i:=by
 simp only[gQ] at K
 refine⟨oi,hi,K.1,K.2,hw,λρ Y=>EI _ (h ρ Y) ?_ (λ_ _ h=>h)⟩
 intro O s' U
 cases O with
 | value v=>exact U
 | skip=>exact U
 | _=>exact U.elim
theorem Take.FC{pp:Rp α}(vs:Lv_){z:Value}(xs:List α)(K:Aq E H S)
  (O:ops[i]?=some ⟨d,.buildSlice t sz ps,ty,p,af,g⟩) (hw:AY L ops ⟨d,.buildSlice t sz ps,ty,p,af,g⟩=some true) (U:Bo n d=true)
  (Y:P.underlying t=some (.slice e)) (Z:Bp P e=some pp.n) (ac:zeroOf P e=some z) (ag:decide (0<sz*pp.n/\sz*pp.n<=2^24)=true)
  (ai:ps.toList.mapM (λq=>(ev L q.2).map λv=>(q.1,v))=some ((vs.zipIdx 0).map λq=>(q.2,q.1)))
  (al:vs.length=sz) (am:xs.length=sz) (ap:LW pp E xs vs)
  (h:∀r seg,OL e pp E (some ⟨r,0,none⟩) sz seg xs->Aq E H (S++ [seg])->AT J Q b n ds ops k cs m DG fuel (Bf listed i) (Ay L d (.slice (some ⟨r,0,none⟩) xs.length sz)) (Aj E H (S++ [seg]))):
  Take J Q b n ds ops k cs m DG fuel listed L (Aj E H S) i:=
 Take.Oi O (by simp[EM,U]) hw λρ aq=>WC aq vs xs Y Z ac ag ai al am ap K λr seg av aw=>h r seg av aw
theorem Take.app0{pp:Rp α}{t1:TypeId}{a:Option Addr}{Z:Seg}{xs ys Y:List α}{z:Value}(j ac:Nat)(ai:Aq E H S)(al:Ey xs ys=some Y)
  (am:ops[i]?=some ⟨d,.call ⟨.builtin .append,#[x,y],ats⟩,ty,p,af,g⟩) (hw:AY L ops ⟨d,.call ⟨.builtin .append,#[x,y],ats⟩,ty,p,af,g⟩=some true) (ap:Bo n d=true)
  (aq:ev L x=some (.slice a xs.length c)) (av:ev L y=some (.slice ax ys.length cx)) (aw:ats[0]?=some t) (ay:ats[1]?=some t1) (az:P.underlying t=some (.slice e)) (a0:P.underlying t1=some (.slice e)) (a1:Bp P e=some pp.n) (hb:FY P e=some sz) (a2:zeroOf P e=some z) (a3:z.cells.size=pp.n)
  (a4:0<sz) (a5:sz<=64) (a6:OL e pp E a c seg xs) (a7:OL e pp E ax cx Z ys) (a8:S[j]?=some seg) (a9:S[ac]?=some Z)
  (h:∀K O g seg',OL e pp E K O seg' Y->Aq E H (S.set j (g++seg'))->AT J Q b n ds ops k cs m DG fuel (Bf listed i) (Ay L d (.slice K Y.length O)) (Aj E H (S.set j (g++seg')))):
  Take J Q b n ds ops k cs m DG fuel listed L (Aj E H S) i:=
 Take.Oi am (by simp[EM,ap]) hw λρ ag=>cJ j ac al (ag _ _ aq) (ag _ _ av) aw ay az a0 a1 hb a2 a3 a4 a5 a6 a7 ai a8 a9 λK O bb seg' be bi=>h K O bb seg' be bi
theorem Take.Kf{z:Value}(O:Aq E H S)(U:ops[i]?=some ⟨d,.alloc e,ty,p,af,g⟩)(hw:AY L ops ⟨d,.alloc e,ty,p,af,g⟩=some true)(Y:Bo n d=true)(Z:zeroOf P e=some z)
  (h:∀r,Aq E H (S++ [[(r,.cells z.cells e (0,0))]])->AT J Q b n ds ops k cs m DG fuel (Bf listed i) (Ay L d (.pointer (some ⟨r,0,none⟩))) (Aj E H (S++ [[(r,.cells z.cells e (0,0))]]))):
  Take J Q b n ds ops k cs m DG fuel listed L (Aj E H S) i:=
 Take.Oi U (by simp[EM,Y]) hw λρ _=>by
  show lp P (do pure (Next.value (← Instr.alloc e true (.tuple #[])))) _ _ _
  refine Az _ _ ?_
  unfold Instr.alloc
  refine Az _ _ (H8 Z ?_)
  refine Az _ _ (J8 O λr K=>?_)
  rw[(F4 K).1]
  exact h r (F4 K).2
end
theorem Ct{pp:Rp α}{E:LH}{ws:Lv_}{xs:List α}(K:(rA kk pp).r E ws xs):ws.length=kk*pp.n:=(rA kk pp).len K
theorem Ib{pp:Rp α}{E:LH}{ws:Lv_}{xs:List α}{m:Int}{x:α}(O:(rA kk pp).r E ws xs)(hm:ix xs m=some x):∃us,pp.r E us x/\0<=m/\m<kk/\(∀j w,us[j]?=some w->ws[m.toNat*pp.n+j]?=some w):=by
 obtain⟨U,wss,rfl,Y,K⟩:=O;obtain⟨m,rfl,hm⟩:=F8 hm;have ac:m<xs.length:=(fx.1 hm).1;have hw:wss[m]?=some wss[m]:=d6 (by omega);exact⟨wss[m],K m x _ hm hw,by omega,by omega,λj w Z=>Li (IN (Y.trans U.symm) K) hw j w Z⟩
section
variable {b:Frame}{n:Nat}
variable {x:Operand}{i:Nat}
theorem IP{pp:Rp α}{a:Addr}{ws:Lv_}{xs:List α}(K:(rA kk pp).r E ws xs)(O:DJ P t=some true)(U:Bp P t=some (kk*pp.n))(Y:ρ x=.pointer (some a))(h:∀j v,ws[j]?=some v->s.cell? (a.add j)=some v):Yl P ⟨d,.load t x,ty,p,af,g⟩ ρ s (.agg ws.toArray):=
 Ia O (by rw[Ct K];exact U) Y h
theorem WQ{pp:Rp α}{ws:Lv_}{xs:List α}{xv:α}{m:Int}{wr:Bool}(Y:(rA kk pp).r E ws xs)(hm:ix xs m=some xv)
  (ap:ops[i]?=some ⟨d,.index t x y,ty,p,af,g⟩) (hw:AY L ops ⟨d,.index t x y,ty,p,af,g⟩=some true) (aq:BU b n ⟨d,.index t x y,ty,p,af,g⟩=true)
  (av:ev L x=some (.agg ws.toArray)) (aw:ev L y=some (.int kd m)) (ay:P.underlying t=some (.array kk e)) (Z:Bp P e=some pp.n) (az:DJ P e=some wr)
  (h:∀us,pp.r E us xv->JL J Q b n (Ay L d (if wr then .agg us.toArray else us.headD undef)) ds (.inRegion ops rest::k) cs s) (a0:wr=false->pp.n=1):
  JL J Q b n L ds (.inRegion ops (i::rest)::k) cs s:=by
 let⟨us,ac,a1,a2,ag⟩:=Ib Y hm;have hlen:=pp.len ac;have a3:=Ct Y;refine A9 ap hw aq (λρ ai=>?_) (h us ac);refine Gp (sm:=Instr.index t (ρ x) (ρ y)) V ?_;rw[ai _ _ av,ai _ _ aw];unfold Instr.index;simp only[asIntOf,IF];refine Az (x:=underlying t) _ (CG ay ?_);simp only[a1,a2,and_self,qs];refine Az (x:=Go.sizeOf e) _ (Fp Z ?_);unfold Go.part;refine Az (x:=isAgg e) _ (OY az ?_);have a5:m.toNat*pp.n+pp.n<=ws.length:=by
  rw[a3];have:(m.toNat+1)*pp.n<=kk*pp.n:=qi _ (by omega);rw[qy] at this;exact this
 cases wr with
 | true=>
  simp only[qs];refine Az (x:=Go.sizeOf e) _ (Fp Z ?_);have a4:ws.toArray.extract (m.toNat*pp.n) (m.toNat*pp.n+pp.n)=us.toArray:=by
   apply qm;intro j;by_cases al:j<us.length;have U:=ag j us[j] (d6 al);simp only[sH,rf,pR];rw[eS (by omega),U];simp[al];rw[py (by simp;omega),py (by simp;omega)]
  rw[a4];exact⟨V,V⟩
 | false=>
  have am:=a0 V;obtain⟨w,rfl⟩:∃w,us=[w]:=by
   match us,hlen with
   | [w],_=>exact⟨w,rfl⟩
   | [],K=>rw[am] at K;cases K
   | _::_::_,K=>rw[am] at K;simp at K
  have U:=ag 0 w V;simp only[px,qp,pR];rw[qq] at U;rw[U];exact⟨V,V⟩
end
theorem OL.jd{e:TypeId}{pp:Rp α}{E:LH}{a:Option Addr}{xs:List α}{m:Int}{x:α}(K:OL e pp E a c seg xs)(hm:ix xs m=some x):
  ∃bk f ws,a=some ⟨bk,0,none⟩/\seg=[(bk,.cells f e (0,0))]/\pp.r E ws x/\(∀j w,ws[j]?=some w->f[m.toNat*pp.n+j]?=some w):=by
 obtain⟨m,rfl,hm⟩:=F8 hm;let⟨bk,f,ws,O,U,Y,Z,_⟩:=OL.get K hm;exact⟨bk,f,ws,O,U,Y,Z⟩
def Il(S:List Seg):List Nat->Prop
 | []=>True
 | bk::bks=>(∃(j:Nat) (o:Obj),S[j]?=some [(bk,o)])/\Il S bks
theorem Il.mem{S:List Seg}:∀{bks:List Nat},Il S bks->∀bk∈bks,∃(j:Nat) (o:Obj),S[j]?=some [(bk,o)]
 | [],_,_,h=>by cases h
 | b::bks,h,bk,hb=>by
  rcases iO.1 hb with rfl | hb;exact h.1;exact h.2.mem bk hb
variable{bks:List Nat}
theorem Il.free{E H:LH}{S:List Seg}(h:Il S bks)(K:Aq E H S):∀x,AI bks x=true->E x=none:=λx O=>by
 obtain⟨j,o,U⟩:=h.mem x (by simpa [AI] using O)
 exact PY K U
variable{s':St}
section
variable {b:Frame}{n m fuel:Nat}
variable {x:Operand}{v:Value}{i:Nat}
theorem Z8(m:Nat)(bks:List Nat){id:Nat}(U:Il S bks)(Y:Aq E H S)(hm:P.follows .mixedOrders=true)(K:(b.kind != .early)=true)(O:El ops m=true)
  (h:El ops m=true->AT J Q b n ds ops k cs m (AI bks) ops.size (Array.replicate ops.size false) L (Aj E H S)):JL J Q b n L ds (.code (.region id ops true)::k) cs (Aj E H S):=
 Rz m (AI bks) V hm K (h O)
theorem BR{bk o:Nat}{c:Av_}{f:Nat×Nat}(j:Nat)(K:Aq E H S)(O:S[j]?=some [(bk,.cells c e f)])(U:AI bks bk=true)(Y:∀x o,(BA (AI bks) (Aj E H S)).E x=some o->s'.E x=some o)(hw:c[o]?=some w):s'.cell? ⟨bk,o,none⟩=some w:=by
 have Z:(BA (AI bks) (Aj E H S)).E bk=some (.cells c e f):=by
  show(if AI bks bk then(Aj E H S).get bk else E bk)=_
  rw[eS U];exact DU (i:=0) K O V
 have ac:=Y _ _ Z;unfold St.cell? St.get;rw[ac];exact hw
theorem gZ(O:Aq E H S)(U:∀x o,(BA (AI bks) (Aj E H S)).E x=some o->s'.E x=some o)(Y:Il S bks):∀x o,E x=some o->s'.E x=some o:=λx o K=>U x o (by
 show(if AI bks x then(Aj E H S).get x else E x)=some o
 rw[d9 (λhd=>by rw[Y.free O x hd] at K;cases K)];exact K)
end
theorem Rl{P:Program}{s:St}{ρ:Operand->Value}{x y:Operand}{d:Option Tmp}{t ty e:TypeId}{p:String}{af:Ae_}{g:On_}{kd:IntKind}{xs:List α}{xv:α}{m:Int}{bk:Nat}(hm:ix xs m=some xv)(K:P.underlying t=some (.slice e))(O:Bp P e=some sz)(U:ρ x=.slice (some ⟨bk,0,none⟩) xs.length c)(Y:ρ y=.int kd m):
  Yl P ⟨d,.indexAddr t x y,ty,p,af,g⟩ ρ s (.pointer (some ⟨bk,m.toNat*sz,none⟩)):=by
 obtain⟨m,rfl,hm⟩:=F8 hm;have Z:m<xs.length:=(fx.1 hm).1;have:=OR (P:=P) (s:=s) (d:=d) (ty:=ty) (p:=p) (af:=af) (g:=g) K O U Y ⟨by omega,by omega⟩;rw[Ek rfl] at this;simpa using this
def I8(ws:Lv_)(q:Nat)(us:Lv_):Lv_:=(A3 ws.toArray q us).toList
theorem OU{ws us:Lv_}{q:Nat}(h:q+us.length<=ws.length)(j:Nat):(I8 ws q us)[j]?=if q<=j/\j<q+us.length then us[j - q]? else ws[j]? :=by
 unfold I8;rw[qn,Ll us _ q (by simpa using h)];simp
variable{l:Lv_}
theorem YB{ws us:Lv_}{q:Nat}(h:q+us.length<=ws.length):A3 (l++ws).toArray (l.length+q) us=(l++I8 ws q us).toArray:=by
 apply qm;intro j;rw[Ll us _ _ (by simp;omega)];simp only[pR];by_cases O:l.length+q<=j/\j<l.length+q+us.length;rw[eS O,pf (by omega),OU h,eS (by omega)];congr 1;omega;rw[d9 O];rcases mt j l.length with K | K;rw[po K,po K];rw[pf K,pf K,OU h,d9 (by omega)]
theorem KJ{ws us:Lv_}(h:us.length=ws.length):I8 ws 0 us=us:=by
 apply qN;intro j;rw[OU (by omega)];split;simp;rename_i K;rw[pU (by omega),pU (by omega)]
theorem Hl{E H:LH}{S:List Seg}{bk:Nat}{ws:Lv_}{e:TypeId}{f:Nat×Nat}(j:Nat)(K:Aq E H S)(O:S[j]?=some [(bk,.cells (l++ws).toArray e f)]):∀q v,ws[q]?=some v->(Aj E H S).cell? (Addr.add ⟨bk,l.length,none⟩ q)=some v:=λq v U=>by
 rw[Ek rfl]
 refine B6 K O ?_
 simp only[pR]
 rw[pf (by omega)]
 rw[show l.length+q - l.length=q by omega];exact U
theorem J7{E H:LH}{S:List Seg}{bk o:Nat}{ws:Lv_}{e:TypeId}{f:Nat×Nat}(j:Nat)(K:Aq E H S)(O:S[j]?=some [(bk,.cells (l++ws).toArray e f)])(U:ws[o]?=some w):(Aj E H S).cell? ⟨bk,l.length+o,none⟩=some w:=by
 have:=Hl j K O o w U
 rwa[Ek rfl] at this
theorem PW{pp:Rp α}{E:LH}{ws us:Lv_}{xs:List α}{m:Int}{x y:α}(Z:(rA kk pp).r E ws xs)(hm:ix xs m=some x)(hu:pp.r E us y):(rA kk pp).r E (I8 ws (m.toNat*pp.n) us) (xs.set m.toNat y)/\m.toNat*pp.n+us.length<=ws.length:=by
 have av:=Ct Z;obtain⟨ac,wss,rfl,ag,ai⟩:=Z;obtain⟨m,rfl,hm⟩:=F8 hm;have aw:m<xs.length:=(fx.1 hm).1;have al:=pp.len hu;have ay:=IN (ag.trans ac.symm) ai;have am:m*pp.n+us.length<=wss.flatten.length:=by
  rw[av,al];have:(m+1)*pp.n<=kk*pp.n:=qi _ (by omega);rw[qy] at this;exact this
 simp only[qF];refine⟨⟨by simpa using ac,wss.set m us,?_,by simpa using ag,λi az a0 O U=>?_⟩,am⟩
 .apply qN;intro j;rw[OU am];have key:∀(wss:List (Lv_)) (m:Nat) (hm:m<wss.length),(∀ws∈wss,ws.length=pp.n)->∀j,(wss.set m us).flatten[j]?=if m*pp.n<=j/\j<m*pp.n+us.length then us[j - m*pp.n]? else wss.flatten[j]? :=by
   intro wss
   induction wss with
   | nil=>intro m hm;simp at hm
   | cons vs wss a1=>
    intro m hm ap j;have a2:vs.length=pp.n:=ap vs (by simp);cases m with
    | zero=>
     simp only[rj,pY,rl,qc,tP,qZ,ro];split;rename_i K;rw[po K];rename_i K;rw[pf (by omega),pf (by omega),al,a2]
    | succ m=>
     simp only[sk,pY];have Y:(m+1)*pp.n=m*pp.n+pp.n:=qy _ _;rcases mt j vs.length with K | K;rw[po K,po K,d9 (by omega)];rw[pf K,pf K,a1 m (by simpa using hm) (λws a3=>ap ws (f7 _ a3))];by_cases aq:m*pp.n<=j - vs.length/\j - vs.length<m*pp.n+us.length;rw[eS aq,eS (by omega)];congr 1;omega;rw[d9 aq,d9 (by omega)]
  exact(key wss m (by omega) ay j).symm
 .rw [p8] at O U;by_cases Y:m=i;subst Y;rw[eS rfl,eS aw] at O;rw[eS rfl,eS (by omega)] at U;cases O;cases U;exact hu;rw[d9 Y] at O U;exact ai i az a0 O U
theorem Hq{pp:Rp α}{E:LH}{x:α}(h:pp.r E [w] x):(rA kk pp).r E (List.replicate kk w) (List.replicate kk x):=by
 refine⟨by simp,List.replicate kk [w],?_,by simp,λi y us K hu=>?_⟩
 .induction kk with
  | zero=>rfl
  | succ k O=>rw[sb,sb,pY,← O];rfl
 .have U:=rc (pC K);have e2:=rc (pC hu);subst U e2;exact h
section
variable {b:Frame}{n:Nat}
variable {x:Operand}{i:Nat}
theorem J9{pp:Rp α}{ws:Lv_}{xs:List α}{xv:α}{m:Int}{bk o:Nat}(K:(rA kk pp).r E ws xs)(hm:ix xs m=some xv)(O:P.underlying t=some (.array kk e))(U:Bp P e=some pp.n)(Y:ρ x=.pointer (some ⟨bk,o,none⟩))(Z:ρ y=.int kd m):
  Yl P ⟨d,.indexAddr t x y,ty,p,af,g⟩ ρ s (.pointer (some ⟨bk,o+m.toNat*pp.n,none⟩)):=by
 let⟨us,ai,ac,ag,al⟩:=Ib K hm;have:=Ue (P:=P) (s:=s) (d:=d) (ty:=ty) (p:=p) (af:=af) (g:=g) O U Y Z ⟨ac,ag⟩;rw[Ek rfl] at this;exact this
theorem H9{bk o:Nat}{ws us:Lv_}{v:Value}(j:Nat)(U:ops[i]?=some ⟨d,.store t x y,ty,p,af,g⟩)(hw:AY L ops ⟨d,.store t x y,ty,p,af,g⟩=some true)(Y:BU b n ⟨d,.store t x y,ty,p,af,g⟩=true)(Z:Aq E H S)
  (ac:ev L x=some (.pointer (some ⟨bk,l.length+o,none⟩))) (ag:ev L y=some v) (K:v.cells.toList=us) (ai:Bp P t=some us.length) (al:∀u∈us,C5 u=true) (am:S[j]?=some [(bk,.cells (l++ws).toArray e (0,0))]) (hle:o+us.length<=ws.length)
  (h:Aq E H (S.set j [(bk,.cells (l++I8 ws o us).toArray e (0,0))])->JL J Q b n (Ay L d undef) ds (.inRegion ops rest::k) cs (Aj E H (S.set j [(bk,.cells (l++I8 ws o us).toArray e (0,0))]))):
  JL J Q b n L ds (.inRegion ops (i::rest)::k) cs (Aj E H S):=by
 have ap:v.cells.size=us.length:=by rw[← K];simp
 refine JS.store (v:=v) (off:=l.length+o) j U hw Y Z ac ag (by rw[ap];exact ai) (by rw[K];exact al) am (by simp;omega) λO=>?_;rw[K,YB hle] at O ⊢;exact h O
end
section
variable {x:Operand}{v:Value}
theorem Wu{n:Nat}{kd:IntKind}{a b:Int}(K:P.underlying t=some (.int kd)){Q:Bool->St->Prop}(k:Q (a==b) s):lp P (Op.equalIn (n+1) t (.int kd a) (.int kd b)) s Q X:=by
 unfold Op.equalIn;refine Az _ _ (CG K ?_);simp only[qs];exact k
end
theorem aB{E H:LH}{S:List Seg}{bk:Nat}{ws:Lv_}{e:TypeId}{f:Nat×Nat}(j:Nat)(K:Aq E H S)(O:S[j]?=some [(bk,.cells (l++ws).toArray e f)])(U:AI bks bk=true)(Y:∀x o,(BA (AI bks) (Aj E H S)).E x=some o->s'.E x=some o):∀q v,ws[q]?=some v->s'.cell? (Addr.add ⟨bk,l.length,none⟩ q)=some v:=λq v Z=>by
 rw[Ek rfl]
 refine BR j K O U Y ?_
 simp only[pR]
 rw[pf (by omega)]
 rw[show l.length+q - l.length=q by omega];exact Z
variable {xt t1 t2:TypeId}{o:Option (Int×Option Int)}
section
variable {x:Operand}{v:Value}
end
def XH{P:Program}(J:Judge P)(v:Value)(args:Av_)(s:St)(R:Value->St->Prop):Prop:=
 ∀(Q:Gs_) (c:Frame) (cs:Lf_),(∀w s',R w s'->J.ok Q (G (c.finish w) cs) s')->
  lp P (do let d ← Deferred.ofValue v args;invoke d.target d.args) s (λK s'=>match K with
   | .enter f a=>J.ok Q (G (Frame.enter P f a .normal) (c::cs)) s'
   | .round l f tm as O=>J.ok Q (G (Frame.round l f tm as O .normal) (c::cs)) s'
   | _=>False) (λ_ _=>False)
def Hz{P:Program}(J:Judge P)(v:Value)(args:Lv_)(E:LH)(B:Seg)(R:Value->LH->Seg->Prop):Prop:=
 ∀H,Nd E H B->XH J v args.toArray (mk E H B) (λv s'=>∃E' B',Le E E'/\R v E' B'/\Nd E' H B'/\s'=mk E' H B')
variable{O:Value}
section
variable {b:Frame}{n i:Nat}
theorem Hz.ofFn{f:FuncId}{caps vs:Lv_}{B:Seg}(hb:Ef P f=true)(h:A6 J f (vs++caps) E B R):Hz J (.func (.func f) #[] caps.toArray) vs E B R:=λH K Q c cs O=>by
 simp only[Deferred.ofValue,bind,Sem.bind,pure,invoke]
 have e: #[]++vs.toArray++caps.toArray=(vs++caps).toArray:=by simp
 rw[e];exact J4 hb (h H K Q c cs O)
theorem Ze{x:Operand}{s:St}{vs:Lv_}{R:Value->St->Prop}
  (Y:ops[i]?=some ⟨d,.call ⟨.value x,args,ats⟩,ty,p,af,g⟩) (hw:AY L ops ⟨d,.call ⟨.value x,args,ats⟩,ty,p,af,g⟩=some true) (U:((b.kind != .early)&&Bo n d)=true)
  (Z:ev L x=some O) (ac:evs L args.toList=some vs) (ag:XH J O vs.toArray s R) (ai:∀v s',R v s'->JL J Q b n (Ay L d v) ds (.inRegion ops rest::k) cs s'):
  JL J Q b n L ds (.inRegion ops (i::rest)::k) cs s:=λT K=>by
 simp only[gQ] at U
 have al:args.map (BL T)=vs.toArray:=by
  rw[← G7 K.GR ac];apply qS;simp
 refine Judge.oper Y (Ck K hw) (by simpa using U.1) (.inr λc am=>by cases am) ?_;have hd:lp P (execOp (BL T) ⟨d,.call ⟨.value x,args,ats⟩,ty,p,af,g⟩) s (upon J Q b T ds ops i rest k cs d) (MO J Q b T ds ops i rest k cs):=by
  have ap:execOp (BL T) ⟨d,.call ⟨.value x,args,ats⟩,ty,p,af,g⟩=(do let d ← Deferred.ofValue O vs.toArray;invoke d.target d.args):=by
   simp only[execOp,resolve,al,K.GR _ _ Z]
  rw[ap];refine EI _ (ag Q (fr b T ds (.inRegion ops (i::rest)::k)) cs λv s' aq=>?_) (λav s' h=>?_) (λ_ _ h=>h.elim);rw[G6 (o:=⟨d,.call ⟨.value x,args,ats⟩,ty,p,af,g⟩) _ _ _ _ _ Y];exact ai v s' aq _ (K.put U.2 v);cases av<;>first | exact h | exact h.elim
 exact hd
theorem MA{x:Operand}{vs:Lv_}(j:Nat)
  (al:Hz J O vs E seg R) (am:ops[i]?=some ⟨d,.call ⟨.value x,args,ats⟩,ty,p,af,g⟩) (hw:AY L ops ⟨d,.call ⟨.value x,args,ats⟩,ty,p,af,g⟩=some true) (ap:((b.kind != .early)&&Bo n d)=true)
  (K:ev L x=some O) (aq:evs L args.toList=some vs) (U:Aq E H S) (Y:S[j]?=some seg) (av:∀v E' seg',Le E E'->R v E' seg'->Aq E' H (S.set j seg')->JL J Q b n (Ay L d v) ds (.inRegion ops rest::k) cs (Aj E' H (S.set j seg'))):
  JL J Q b n L ds (.inRegion ops (i::rest)::k) cs (Aj E H S):=by
 have Z:S.flatten.Perm (seg++(S.set j []).flatten):=(Ds (seg':=seg) Y).1.trans pr;have ac:Nd E H (seg++(S.set j []).flatten):=Nd.perm U Z;have aw:Aj E H S=mk E (Bn (S.set j []).flatten H) seg:=by
  rw[show Aj E H S=mk E H S.flatten from rfl,FH U Z];unfold mk;rw[Gq]
 rw[aw];refine Ze am hw ap K aq (al _ (Nd.front ac)) ?_;rintro v s' ⟨E',B',hle,ay,az,rfl⟩;have e2:mk E' (Bn (S.set j []).flatten H) B'=mk E' H (B'++(S.set j []).flatten):=by unfold mk;rw[Gq]
 have a0:Nd E H (S.set j []).flatten:=by
  have:=ac;rw[Nd.iff] at this ⊢;rw[ql,qx] at this;exact⟨this.1.2.1,λq a1=>this.2 q (qd _ a1)⟩
 refine VA V λ⟨w,a2⟩=>?_;have a3:Nd E' H (S.set j []).flatten:=a0.grow λx K=>by
  have a4:=a2.d x K;have a5:Bn B' (Bn (S.set j []).flatten H) x=none:=a4;exact(IE a5).1
 have ag:Nd E' H (B'++(S.set j []).flatten):=Nd.glue az a3;rw[e2];have ai:(B'++(S.set j []).flatten).Perm (S.set j B').flatten:=pr.trans (Ds Y).2.symm;rw[FH ag ai];exact av v E' B' hle ay (Nd.perm ag ai)
theorem Take.iA{m:Nat}{listed:Array Bool}{f:FuncId}{vs:Lv_}(am:Il S bks)(Z:Aq E H S)(ap:A6 J f vs E [] R)
  (aq:ops[i]?=some ⟨d,.call ⟨.value (.func f),args,ats⟩,ty,p,af,g⟩) (hw:AY L ops ⟨d,.call ⟨.value (.func f),args,ats⟩,ty,p,af,g⟩=some true) (av:Bo n d=true) (hb:Ef P f=true) (aw:evs L args.toList=some vs)
  (ay:∀v E' seg',Le E E'->R v E' seg'->Aq E' H (S++ [seg'])->AT J Q b n ds ops k cs m (AI bks) sz (Bf listed i) (Ay L d v) (Aj E' H (S++ [seg']))):
  Take J Q b n ds ops k cs m (AI bks) sz listed L (Aj E H S) i:=by
 have az:=Fh.M7 (ap (Bn S.flatten H) trivial) (by rintro v s' ⟨E',B',_,_,_,rfl⟩;rfl);refine⟨_,aq,by simp[EM],av,hw,λρ ac=>?_⟩;have a0:args.map ρ=vs.toArray:=by
  rw[← G7 ac aw];apply qS;simp
 have a1:ρ (.func f)=.func (.func f) #[] #[]:=ac _ _ V;simp only[execOp,resolve,bind,Sem.bind,Deferred.ofValue,a1,pure,invoke];have e: #[]++args.map ρ++ #[]=vs.toArray:=by rw[a0];simp
 rw[e];refine J4 hb ?_;rw[Mo];refine⟨_,az,?_⟩;rintro v a9 ⟨⟨E',B',hle,a2,a3,rfl⟩,w,a4⟩;have e2:mk E' (Bn S.flatten H) B'=mk E' H (B'++S.flatten):=by unfold mk;rw[Gq]
 have a5:Nd E' H S.flatten:=Nd.grow Z λx O=>by
  have a6:=a4.d x O;have U:Bn B' (Bn S.flatten H) x=none:=a6;exact(IE U).1
 have ag:Nd E' H (B'++S.flatten):=Nd.glue a3 a5;have ai:(B'++S.flatten).Perm (S++ [B']).flatten:=by rw[GJ];exact pr
 have al:Aq E' H (S++ [B']):=Nd.perm ag ai;rw[e2,FH ag ai];refine⟨V,λx o O=>?_,ay v E' B' hle a2 al⟩;by_cases hd:AI bks x=true
 .obtain⟨j,o',Y⟩:=am.mem x (by simpa [AI] using hd);have U:(Aj E H S).get x=some o':=DU (i:=0) Z Y V;have a7:j<S.length:=(fx.1 Y).1;have a8:(Aj E' H (S++ [B'])).get x=some o':=DU (i:=0) al (by rw[po a7];exact Y) rfl;have K:(if AI bks x then(Aj E H S).get x else E x)=some o:=O
  show(if AI bks x then(Aj E' H (S++ [B'])).get x else E' x)=some o
  rw[eS hd] at K ⊢;rw[a8,← U];exact K
 .have K:(if AI bks x then(Aj E H S).get x else E x)=some o:=O
  show(if AI bks x then(Aj E' H (S++ [B'])).get x else E' x)=some o
  rw[d9 hd] at K ⊢;exact hle _ _ K
theorem Take.Ft{m:Nat}{listed:Array Bool}{f:FuncId}{vs:Lv_}(O:Aq E H S)(U:A6 J f vs E [] R)
  (Y:ops[i]?=some ⟨d,.call ⟨.value (.func f),args,ats⟩,ty,p,af,g⟩) (hw:AY L ops ⟨d,.call ⟨.value (.func f),args,ats⟩,ty,p,af,g⟩=some true) (Z:Bo n d=true) (hb:Ef P f=true) (ac:evs L args.toList=some vs)
  (K:∀v E' seg',Le E E'->R v E' seg'->Aq E' H (S++ [seg'])->AT J Q b n ds ops k cs m DG sz (Bf listed i) (Ay L d v) (Aj E' H (S++ [seg']))):
  Take J Q b n ds ops k cs m DG sz listed L (Aj E H S) i:=by
 have e:AI []=DG:=by funext x;rfl
 rw[← e] at K ⊢;exact Take.iA (bks:=[]) trivial O U Y hw Z hb ac K
end
open Go.ConcN (upd upd_ne upd_same)
def C4:Loc->Option Nat | .cell a=>some a.block | .obj r=>some r | _=>none
structure B8 (t:Trace) (w:World) (N:Nat) (S:Nat->St) (Sh:Nat->Prop):Prop where
 fits:∀i,i<N->Fits (S i) w
 hh:∀i j,i<N->j<N->i≠j->∀b,(S i).H b≠none->(S j).H b=none/\(S j).E b=none
 sh:∀i,i<N->∀b,Sh b->(S i).H b=none/\(S i).E b=none
 GU:∀b,Sh b->b<w.heap.size
 clean:∀said,¬Race said t
 low:∀op∈t,op.act.low w.heap.size
 kH:∀i,i<N->∀b,(S i).H b≠none->∀x a,touchAt t x=some a->C4 a.loc=some b->Knows t i x
 kE:∀i,i<N->∀b,(S i).E b≠none->∀x a,touchAt t x=some a->C4 a.loc=some b->a.write=true->Knows t i x
theorem Rn{t:Trace}{x:Nat}{a:Touch}{b n:Nat}(Z:∀op∈t,op.act.low n)(h:touchAt t x=some a)(hb:C4 a.loc=some b):b<n:=by
 let⟨op,ac,K⟩:=touch_of h;have O:=Z op (mem_of_getElem? ac);cases U:op.act with
 | access e=>
  rw[U] at K O;simp only[MemAct.touch?,qv] at K;subst K;simp only[MemAct.low] at O;cases Y:e.loc with
  | cell ad=>rw[Y] at O hb;simp only[C4,qv] at hb;subst hb;exact O
  | obj r=>rw[Y] at O hb;simp only[C4,qv] at hb;subst hb;exact O
  | _=>rw[Y] at hb;simp[C4] at hb
 | mark m=>
  rw[U] at K O;cases m<;>simp only[MemAct.touch?] at K<;>first
   | (simp at K;done)
   | (simp only[qv] at K;subst K;simp only[C4,qv] at hb;subst hb;exact O)
 | _=>rw[U] at K;simp[MemAct.touch?] at K
variable{w':World}
theorem Mt{s:St}{w:World}{e:Event}{a:Touch}{b:Nat}(h:Ev s w w' e)(K:(MemAct.ofEvent e).touch?=some a)(hb:C4 a.loc=some b):
  Hn s w w' b a.write:=by
 obtain⟨loc,wr,Y⟩:=e;cases loc with
 | cell ad=>
  obtain⟨O,U⟩:=h;simp only at O;subst O;simp only[MemAct.ofEvent,MemAct.touch?,qv] at K;subst K;simp only[C4,qv] at hb;subst hb;exact U
 | obj r=>
  obtain⟨O,U⟩:=h;simp only at O;subst O;simp only[MemAct.ofEvent,MemAct.touch?,qv] at K;subst K;simp only[C4,qv] at hb;subst hb;exact U
 | mark m=>
  cases m<;>simp only[Ev] at h<;>first | exact h.elim | simp[MemAct.ofEvent,MemAct.touch?] at K
 | _=>exact h.elim
theorem fp{s:St}{w:World}{e:Event}(h:Ev s w w' e):(MemAct.ofEvent e).low w'.heap.size:=by
 obtain⟨loc,wr,U⟩:=e;cases loc with
 | cell ad=>obtain⟨K,O⟩:=h;simp only at K;subst K;exact O.1
 | obj r=>obtain⟨K,O⟩:=h;simp only at K;subst K;cases wr<;>exact O.1
 | mark m=>cases m<;>simp only[Ev] at h<;>first | exact h.elim | exact trivial
 | _=>exact h.elim
theorem X8{l:Loc}(h:l.isMemory=true):∃b,C4 l=some b:=by
 cases l<;>simp[Loc.isMemory] at h<;>exact⟨_,rfl⟩
variable{N:Nat}{Sh:Nat->Prop}
theorem B8.own{t:Trace}{w:World}{S:Nat->St}(h:B8 t w N S Sh){i:Nat}(hi:i<N){fn:FuncId}{pos:String}{es:Array Event}
  (a9:Fits s' w') (Y:Fr (S i) w s' w') (aw:∀e∈es,Ev (S i) w w' e):B8 (t++MemOp.ofEvents i fn pos es) w' N (upd S i s') Sh:=by
 have a4:∀j,j<N->j≠i->∀b o,((S j).H b=some o∨(S j).E b=some o)->w'.heap[b]?=some o/\(S i).H b=none:=by
  intro j U Z b o K;have hw:w.heap[b]?=some o:=K.elim ((h.fits j U).h b o) ((h.fits j U).e b o);have ai:b<w.heap.size:=by
   rcases mt b w.heap.size with a0 | a0;exact a0;simp[py a0] at hw
  have a5:(S i).H b=none:=by
   cases bb:(S i).H b with
   | none=>rfl
   | some u=>
    have:=h.hh i j hi U (p6 Z) b (by rw[bb];simp);rcases K with K | K;rw[this.1] at K;cases K;rw[this.2] at K;cases K
  exact⟨by rw[Y.keep b ai a5,hw],a5⟩
 have ay:∀j,j<N->∀b,w.heap.size<=b->(S j).H b=none/\(S j).E b=none:=by
  intro j U b hb;constructor
  .cases O:(S j).H b with
   | none=>rfl
   | some o=>have:=(h.fits j U).h b o O;simp[py hb] at this
  .cases O:(S j).E b with
   | none=>rfl
   | some o=>have:=(h.fits j U).e b o O;simp[py hb] at this
 have al:∀op∈MemOp.ofEvents i fn pos es,op.g=i/\∃e∈es,op.act=MemAct.ofEvent e:=by
  intro op al;obtain⟨e,he,rfl⟩:=mem_ofEvents al;exact⟨V,e,he,V⟩
 have hold:∀x a,touchAt t x=some a->touchAt (t++MemOp.ofEvents i fn pos es) x=some a:=by
  intro x a O;let⟨op,K,_⟩:=touch_of O;rw[touchAt_old (lt_size_of_getElem? K)];exact O
 have az:∀x a,touchAt (t++MemOp.ofEvents i fn pos es) x=some a->touchAt t x=some a∨(Knows (t++MemOp.ofEvents i fn pos es) i x/\∃e∈es,(MemAct.ofEvent e).touch?=some a):=by
  intro x a O;let⟨op,K,a6⟩:=touch_of O;rcases getElem?_append_cases K with⟨ai,be⟩ | ⟨_,bi⟩;left;rw[touchAt_of be];exact a6;right;let⟨bn,e,he,ap⟩:=al op bi;exact⟨by have:=knows_own K;rwa[bn] at this,e,he,by rw[← ap];exact a6⟩
 have bo:∀j,j<N->j≠i->∀b,s'.H b≠none->(S j).H b=none/\(S j).E b=none:=by
  intro j U Z b hb;rcases Y.own b hb with O | O;exact h.hh i j hi U (p6 Z) b O;exact ay j U b O
 have bv:∀j,j<N->j≠i->∀b,(S j).H b≠none->s'.H b=none/\s'.E b=none:=by
  intro j U Z b hb;have ac:=h.hh j i U hi Z b hb;have ai:¬w.heap.size<=b:=λO=>hb (ay j U b O).1;constructor
  .cases O:s'.H b with
   | none=>rfl
   | some o=>
    rcases Y.own b (by rw[O];simp) with y | y;exact absurd ac.1 y;exact absurd y ai
  .cases O:s'.E b with
   | none=>rfl
   | some o=>
    rcases Y.Fg b (by rw[O];simp) with y | y | y;exact absurd ac.2 y;exact absurd ac.1 y;exact absurd y ai
 constructor;intro j U;by_cases e:j=i;subst e;rw[upd_same];exact a9;rw[upd_ne _ _ e];exact⟨λb o K=>(a4 j U e b o (.inr K)).1,λb o K=>(a4 j U e b o (.inl K)).1,(h.fits j U).d⟩;intro a c a7 aq Z b hb;by_cases e:a=i;subst e;rw[upd_same] at hb;rw[upd_ne _ _ (p6 Z)];exact bo c aq (p6 Z) b hb;rw[upd_ne _ _ e] at hb;by_cases a8:c=i;subst a8;rw[upd_same];exact bv a a7 Z b hb;rw[upd_ne _ _ a8];exact h.hh a c a7 aq Z b hb
 .intro j U b hb;by_cases e:j=i
  .subst e;rw[upd_same];have ac:=h.sh j U b hb;have ai:=h.GU b hb;constructor
   .cases O:s'.H b with
    | none=>rfl
    | some o=>
     rcases Y.own b (by rw[O];simp) with y | y;exact absurd ac.1 y;omega
   .cases O:s'.E b with
    | none=>rfl
    | some o=>
     rcases Y.Fg b (by rw[O];simp) with y | y | y;exact absurd ac.2 y;exact absurd ac.1 y;omega
  .rw [upd_ne _ _ e];exact h.sh j U b hb
 .exact λb hb=>qt (h.GU b hb) Y.size
 .intro said;refine noRace_append (g:=i) (h.clean said) (λop K=>(al op K).1) λx a O op K c aq bw=>?_;let⟨_,e,he,ap⟩:=al op K;rw[ap] at aq;obtain⟨bx,hm,am,_⟩:=bw;let⟨b,hb⟩:=X8 hm;have bz:C4 c.loc=some b:=by rw[← bx];exact hb
  have av:=Mt (aw e he) aq bz;rcases av.2 with y | y | ⟨y,a1⟩;exact h.kH i hi b y x a O hb;have:=Rn h.low O hb;omega;rcases am with z | z;exact h.kE i hi b y x a O hb z;rw[a1] at z;cases z
 intro op K;rcases qV.1 K with K | K;exact MemAct.low_mono Y.size (h.low op K);let⟨_,e,he,ap⟩:=al op K;rw[ap];exact fp (aw e he);intro j U b hb x a O ag;by_cases e:j=i;subst e;rw[upd_same] at hb;rcases az x a O with K | ⟨a2,_⟩;rcases Y.own b hb with y | y;exact(h.kH j U b y x a K ag).app _;have:=Rn h.low K ag;omega;exact a2;rw[upd_ne _ _ e] at hb;rcases az x a O with K | ⟨_,ev,he,a3⟩;exact(h.kH j U b hb x a K ag).app _;have av:=Mt (aw ev he) a3 ag;have ac:=h.hh j i U hi e b hb;rcases av.2 with y | y | ⟨y,_⟩;exact absurd ac.1 y;exact absurd (ay j U b y).1 hb;exact absurd ac.2 y;intro j U b hb x a O ag am;by_cases e:j=i;subst e;rw[upd_same] at hb;rcases az x a O with K | ⟨a2,_⟩;rcases Y.Fg b hb with y | y | y;exact(h.kE j U b y x a K ag am).app _;exact(h.kH j U b y x a K ag).app _;have:=Rn h.low K ag;omega;exact a2;rw[upd_ne _ _ e] at hb;rcases az x a O with K | ⟨_,ev,he,a3⟩;exact(h.kE j U b hb x a K ag am).app _;have av:=Mt (aw ev he) a3 ag;rcases av.2 with y | y | ⟨_,a1⟩;exact absurd ((h.hh i j hi U (p6 e) b y).2) hb;exact absurd (ay j U b y).2 hb;rw[a1] at am;cases am
theorem B8.mute{t u:Trace}{w:World}{S:Nat->St}(h:B8 t w N S Sh){g:Nat}(hu:∀op∈u,op.g=g)(Z:∀op∈u,op.act.touch?=none)(ai:∀op∈u,op.act.low w'.heap.size)(hw:w'.heap=w.heap):B8 (t++u) w' N S Sh:=by
 have ac:∀x a,touchAt (t++u) x=some a->touchAt t x=some a:=by
  intro x a O;let⟨op,K,U⟩:=touch_of O;rcases getElem?_append_cases K with⟨aq,al⟩ | ⟨_,am⟩;rw[touchAt_of al];exact U;rw[Z op am] at U;cases U
 exact⟨λi hi=>⟨λb o K=>by rw[hw];exact(h.fits i hi).e b o K,λb o K=>by rw[hw];exact(h.fits i hi).h b o K,(h.fits i hi).d⟩,h.hh,h.sh,λb hb=>by rw[hw];exact h.GU b hb,
  λsaid=>noRace_append (g:=g) (h.clean said) hu (λx a _ op K c ag _=>by rw[Z op K] at ag;cases ag),
  λop K=>(qV.1 K).elim (λK=>by rw[hw];exact h.low op K) (ai op),
  λi hi b hb x a O Y=>(h.kH i hi b hb x a (ac x a O) Y).app _,λi hi b hb x a O Y ap=>(h.kE i hi b hb x a (ac x a O) Y ap).app _⟩
theorem B8.ghost{t:Trace}{w:World}{S:Nat->St}(h:B8 t w N S Sh){i:Nat}(hi:i<N){s₀:St}(ai:Cu (S i) s₀):B8 t w N (upd S i s₀) Sh:=by
 have Z:∀b,s₀.H b≠none->(S i).H b≠none:=λb hb=>by let⟨o,al⟩:=IG hb;rw[ai.own b o al];simp
 have am:∀b,s₀.E b≠none->(S i).E b≠none∨(S i).H b≠none:=λb hb=>by
  let⟨o,al⟩:=IG hb;rcases ai.Fg b o al with x | x;exact .inl (by rw[x];simp);exact .inr (by rw[x.1];simp)
 have ac:∀{x:Option Obj},¬x≠none->x=none:=λh=>tb.1 h;constructor;intro j K;by_cases e:j=i;subst e;rw[upd_same];exact ai.fits (h.fits j K);rw[upd_ne _ _ e];exact h.fits j K;intro a c ap aq ag b hb;by_cases e:a=i;subst e;rw[upd_same] at hb;rw[upd_ne _ _ (p6 ag)];exact h.hh a c ap aq ag b (Z b hb);rw[upd_ne _ _ e] at hb;by_cases av:c=i;subst av;rw[upd_same];have O:=h.hh a c ap aq ag b hb;exact⟨ac λx=>Z b x O.1,ac λx=>(am b x).elim (λy=>y O.2) λy=>y O.1⟩;rw[upd_ne _ _ av];exact h.hh a c ap aq ag b hb;intro j K b hb;by_cases e:j=i;subst e;rw[upd_same];have O:=h.sh j K b hb;exact⟨ac λx=>Z b x O.1,ac λx=>(am b x).elim (λy=>y O.2) λy=>y O.1⟩;rw[upd_ne _ _ e];exact h.sh j K b hb;exact h.GU;exact h.clean;exact h.low;intro j K b hb x a U Y;by_cases e:j=i;subst e;rw[upd_same] at hb;exact h.kH j K b (Z b hb) x a U Y;rw[upd_ne _ _ e] at hb;exact h.kH j K b hb x a U Y;intro j K b hb x a U Y aw;by_cases e:j=i;subst e;rw[upd_same] at hb;rcases am b hb with y | y;exact h.kE j K b y x a U Y aw;exact h.kH j K b y x a U Y;rw[upd_ne _ _ e] at hb;exact h.kE j K b hb x a U Y aw
open Go.ConcN (sumTo sumTo_upd)
abbrev St.none:St:=St.quiet
def GZ(o o':Os):Prop:=∃d:Nat,o'={o with wall:=o.wall+d,mono:=o.mono+d}
theorem GZ.refl(o:Os):GZ o o:=⟨0,V⟩
theorem GZ.of{o o':Os}(h:o'=o):GZ o o':=h▸ .refl o
theorem GZ.trans{a b c:Os}(h:GZ a b)(k:GZ b c):GZ a c:=by
 obtain⟨d,rfl⟩:=h;obtain⟨e,rfl⟩:=k;exact⟨d+e,by simp[rt]⟩
def lone(s:St):Nat->St:=λi=>if i=0 then s else St.none
structure HX (P:Program) (gs:Array Goroutine) (w:World) (t:Trace) (q:Nat->Nat) (Sh:Nat->Prop) (g:Goroutine) (s:St):Prop where
 main:gs[0]?=some g
 lv:Leavers P t gs q
 Cm:B8 t w gs.size (lone s) Sh
 over:t.HandedOver
 hears:Deaf t 0=0
def Reaches(P:Program)(gs:Array Goroutine)(w:World)(sl:Option (Nat×Nat))(t:Trace)(s:St)(K:Gs_):Prop:=
 ∃(n:Nat) (gs':Array Goroutine) (w':World) (U:Option (Nat×Nat)) (O:Trace) (q':Nat->Nat) (Y:Nat->Prop) (g':Goroutine) (s':St),
  runNT P n (crowd gs w sl) t=(.next (crowd gs' w' U),O)/\HX P gs' w' O q' Y g' s'/\K g' s'/\Le' s s'/\w'.tape=w.tape/\GZ w.os w'.os/\w'.output=w.output
 where
  Le' (s s' : St) : Prop :=∀ b o, s.E b = some o -> s'.E b = some o
theorem UJ{s:St}:upd (lone s) 0 s'=lone s':=by
 funext i;unfold upd lone;split<;>rfl
theorem OK{P:Program}{m m':Machine}{t ops:Trace}{k:Nat}{r:Stepped×Trace}(h:stepT P m=(.next m',ops))(K:runNT P k m' (t++ops)=r):runNT P (k+1) m t=r:=by
 simp only[runNT,h];exact K
theorem HX.at_{P:Program}{gs:Array Goroutine}{w:World}{t:Trace}{q:Nat->Nat}{g:Goroutine}{s:St}(h:HX P gs w t q Sh g s)(d:Nat):HX P gs (w.at d) t q Sh g s:=
 ⟨h.main,h.lv,by
  have:=h.Cm.mute (u:=#[]) (w':=w.at d) (g:=0) (by simp) (by simp) (by simp) rfl
  simpa using this,h.over,h.hears⟩
theorem ZI{P:Program}{g:Goroutine}{s:St}{K:Gs_}(a7:Wl P true g s K):
  ∀(M:Nat) (gs:Array Goroutine) (w:World) (sl:Option (Nat×Nat)) (t:Trace) (q:Nat->Nat) (Sh:Nat->Prop),sumTo gs.size q<=M->HX P gs w t q Sh g s->Reaches P gs w sl t s K:=by
 intro M
 induction M with
 | zero=>?_
 | succ M bi=>?_
 all_goals
  intro gs w sl t q Sh cc hC;have av:=a7.1;have bn:∀x∈gs,awake x:=by
   intro x ai;obtain⟨i,hi,rfl⟩:=sN.1 ai;rcases qo i with rfl | aw
   .have:gs[0]=g:=by simpa [pP hi] using hC.main
    rw[this];exact awake_of (.inl av)
   .exact awake_of ((hC.lv.old i _ aw (pP hi)).status.elim .inl λx=>.inr (.inr x))
  let⟨i,x,d,al,hi,ai,a8⟩:=crowd_pick (P:=P) (w:=w) (sl:=sl) bn ⟨0,g,hC.main,av⟩;have ay:=hC.at_ d;have az:0<gs.size:=(f8.1 hC.main).1;rcases qo i with rfl | aw
  .obtain rfl:x=g:=by rw[hC.main] at hi;exact(f5 hi).symm
   have bo:Fits s (w.at d):=ay.Cm.fits 0 az;let⟨g',s',w',es,a0,a1,a2,Z,am⟩:=a7.2.1 (w.at d) bo;have a3:=runT_crowd_go (P:=P) (sl:=al) (i:=0) hi (show stepG P (0==0) x (w.at d)=_ from a0);have ap:((gs.map (woken P x g' w')).setIfInBounds 0 g').size=gs.size:=by simp
   have Y:∀op∈MemOp.ofEvents 0 x.frame.fn x.frame.place es,op.g=0:=λop O=>by obtain⟨e,_,rfl⟩:=mem_ofEvents O;rfl
   have bv:deafBehind (Deaf t 0) es=Deaf t 0:=deafBehind_still (λe he=>by
    have:=am e he
    unfold Ev at this
    constructor<;>intro bw<;>rw[bw] at this<;>exact this) _
   refine⟨1,_,w',al,t++MemOp.ofEvents 0 x.frame.fn x.frame.place es,q,Sh,g',s',OK (a8.trans a3) V,⟨by simp[az],⟨λj y U ac=>?_,λj U=>?_⟩,?_,?_,?_⟩,a1,Z.ext,Z.tape,.of Z.os,Z.output⟩
   .have a4:0≠j:=by omega
    rw[pe a4,q1] at ac;obtain⟨z,a5,rfl⟩:=p7.1 ac;have ag:=hC.lv.old j z U a5;rw[woken_quitsD ag,Deaf_other t (by omega) _ Y];exact ag
   rw[Deaf_other t (g':=0) (by simp at U;omega) _ Y];exact hC.lv.above j (by simpa using U);rw[ap,← UJ (s:=s)];exact ay.Cm.own az a2 (by simpa [lone] using Z) (by simpa [lone] using am);exact handedOver_app hC.over λop O=>.inl (Y op O);rw[Deaf_own,bv];exact hC.hears
  ·
   have ag:=hC.lv.old i x aw hi;have bx:(i==0)=false:=by simp;omega
   have a9:i<gs.size:=(f8.1 hi).1;cases a6:q i with
   | zero=>rw[a6] at ag;rw[ag.1] at ai;cases ai
   | succ k=>
    rw[a6] at ag;rcases ag with⟨bz,_⟩ | ⟨_,x',es,hm,b0,b1⟩;rw[bz] at ai;cases ai
    have ce:sumTo gs.size (upd q i k)+(k+1)=sumTo gs.size q+k:=by
     have:=sumTo_upd q k id a9;simpa [a6] using this
    first
     | (exfalso;omega)
     | (
      have a3:=runT_crowd_go (P:=P) (sl:=al) (i:=i) hi (by rw[bx];exact b0 (w.at d))
      have ap:((gs.map (woken P x x' (w.at d))).setIfInBounds i x').size=gs.size:=by simp
      have Y:∀op∈MemOp.ofEvents i x.frame.fn x.frame.place es,op.g=i:=λop O=>by obtain⟨e,_,rfl⟩:=mem_ofEvents O;rfl
      have bb:∀op∈MemOp.ofEvents i x.frame.fn x.frame.place es,op.act.touch?=none:=λop O=>by obtain⟨e,he,rfl⟩:=mem_ofEvents O;exact touch_mute (hm e he)
      have b2:HX P ((gs.map (woken P x x' (w.at d))).setIfInBounds i x') (w.at d) (t++MemOp.ofEvents i x.frame.fn x.frame.place es) (upd q i k) Sh g s:=by
       refine⟨?_,⟨λj y U ac=>?_,λj U=>?_⟩,?_,?_,?_⟩
       .have a4:i≠0:=by omega
        rw[pe a4,q1,hC.main]
        simp[woken_run av]
       .by_cases aq:i=j
        .subst aq
         rw[pq (by simpa using a9)] at ac
         obtain rfl:=f5 ac
         rw[upd_same,Deaf_own]
         exact b1
        .rw [pe aq,q1] at ac
         obtain⟨z,a5,rfl⟩:=p7.1 ac
         have be:=hC.lv.old j z U a5
         rw[woken_quitsD be,upd_ne q k (p6 aq),Deaf_other t aq _ Y]
         exact be
       .rw [Deaf_other t (g':=i) (by simp at U;omega) _ Y]
        exact hC.lv.above j (by simpa using U)
       .rw [ap]
        exact ay.Cm.mute Y bb (λop O=>by obtain⟨e,he,rfl⟩:=mem_ofEvents O;exact low_mute (hm e he) _) V
       exact handedOver_app hC.over λop O=>.inr (bb op O);rw[Deaf_other t (by omega) _ Y];exact hC.hears
      obtain⟨n,gs',w',b3,b4,q',b5,g',s',a0,a1,a2,Z,am,b6,ca⟩:=bi _ (w.at d) al _ _ Sh (by rw[ap];omega) b2
      exact⟨n+1,gs',w',b3,b4,q',b5,g',s',OK (a8.trans a3) a0,a1,a2,Z,am,b6,ca⟩)
def Ho(P:Program):Judge P where
 main:=true
 ok Q g s:=∀gs w sl t q Sh,HX P gs w t q Sh g s->Reaches P gs w sl t s Q
 stop {Q g s} h:=λgs w sl t q Sh hC=>⟨0,gs,w,sl,t,q,Sh,g,s,rfl,hC,h,λ_ _ h=>h,rfl,.refl _,rfl⟩
 step {Q g s} h:=λgs w sl t q Sh hC=>by
  let⟨n,gs',w',K,O,q',U,g',s',Y,Z,ac,ag,ai,al,am⟩:=ZI h _ gs w sl t q Sh (no _) hC
  let⟨ap,aq,av,aw,ay,az,a0,a1,a2,k1,a3,a4,a5,a6,a7,a8⟩:=ac gs' w' K O q' U Z
  refine⟨n+ap,aq,av,aw,ay,az,a0,a1,a2,?_,a3,a4,λb o h=>a5 b o (ag b o h),a6.trans ai,al.trans a7,a8.trans am⟩
  rw[runNT_add,Y];exact k1
 trans {Q R g s} h k:=λgs w sl t q Sh hC=>by
  let⟨n,gs',w',K,O,q',U,g',s',Y,Z,ac,ag,ai,al,am⟩:=h gs w sl t q Sh hC
  let⟨ap,aq,av,aw,ay,az,a0,a1,a2,k1,a3,a4,a5,a6,a7,a8⟩:=k g' s' ac gs' w' K O q' U Z
  refine⟨n+ap,aq,av,aw,ay,az,a0,a1,a2,?_,a3,a4,λb o h=>a5 b o (ag b o h),a6.trans ai,al.trans a7,a8.trans am⟩
  rw[runNT_add,Y];exact k1
 ghost {Q g s s₀} a9 h:=λgs w sl t q Sh hC=>by
  have bb:0<gs.size:=(f8.1 hC.main).1
  have be:HX P gs w t q Sh g s₀:=⟨hC.main,hC.lv,by
   rw[← UJ (s:=s)];exact hC.Cm.ghost bb (by simpa [lone] using a9),hC.over,hC.hears⟩
  let⟨n,gs',w',K,O,q',U,g',s',Y,Z,ac,ag,ai,al,am⟩:=h gs w sl t q Sh be
  exact⟨n,gs',w',K,O,q',U,g',s',Y,Z,ac,λb o h=>ag b o (a9.ext b o h),ai,al,am⟩
end Pal
namespace Pal
open Go Go.Conc
open Go.ConcN (upd upd_same upd_ne)
variable{i:Nat}
section
variable {t u:Trace}{w w':World}{N:Nat}{S:Nat->St}{Sh:Nat->Prop}
theorem B8.ext(h:B8 t w N S Sh)(ag:∀said,¬Race said (t++u))(hu:∀op∈u,∀a,op.act.touch?=some a->∀b,C4 a.loc=some b->Sh b)
  (ai:∀op∈u,op.act.low w.heap.size) (Z:w'.heap.size=w.heap.size) (hw:∀b,¬Sh b->w'.heap[b]?=w.heap[b]?):B8 (t++u) w' N S Sh:=by
 have hold:∀x a b,touchAt (t++u) x=some a->C4 a.loc=some b->¬Sh b->touchAt t x=some a:=by
  intro x a b U hb O;let⟨op,K,ac⟩:=touch_of U;rcases getElem?_append_cases K with⟨av,al⟩ | ⟨_,am⟩;rw[touchAt_of al];exact ac;exact absurd (hu op am a ac b hb) O
 have O:∀i,i<N->∀b,((S i).H b≠none∨(S i).E b≠none)->¬Sh b:=by
  intro i hi b hb ap;have:=h.sh i hi b ap;exact hb.elim (λx=>x this.1) (λx=>x this.2)
 refine⟨λi hi=>⟨λb o K=>?_,λb o K=>?_,(h.fits i hi).d⟩,h.hh,h.sh,λb hb=>by rw[Z];exact h.GU b hb,ag,λop K=>?_,λi hi b hb x a U Y=>?_,λi hi b hb x a U Y aq=>?_⟩;rw[hw b (O i hi b (.inr (by rw[K];simp)))];exact(h.fits i hi).e b o K;rw[hw b (O i hi b (.inl (by rw[K];simp)))];exact(h.fits i hi).h b o K;rcases qV.1 K with K | K;rw[Z];exact h.low op K;rw[Z];exact ai op K;exact(h.kH i hi b hb x a (hold x a b U Y (O i hi b (.inl hb))) Y).app _;exact(h.kE i hi b hb x a (hold x a b U Y (O i hi b (.inr hb))) Y aq).app _
theorem B8.congr{S':Nat->St}(h:B8 t w N S Sh)(K:∀i,i<N->(S' i).E=(S i).E/\(S' i).H=(S i).H):B8 t w N S' Sh:=by
 refine⟨λi hi=>⟨by rw[(K i hi).1];exact(h.fits i hi).e,by rw[(K i hi).2];exact(h.fits i hi).h,by rw[(K i hi).1,(K i hi).2];exact(h.fits i hi).d⟩,λi j hi O U b=>?_,λi hi b=>?_,h.GU,h.clean,h.low,λi hi b=>?_,λi hi b=>?_⟩;rw[(K i hi).2,(K j O).1,(K j O).2];exact h.hh i j hi O U b;rw[(K i hi).1,(K i hi).2];exact h.sh i hi b;rw[(K i hi).2];exact h.kH i hi b;rw[(K i hi).1];exact h.kE i hi b
theorem B8.less(h:B8 t w N S Sh){s':St}(ai:∀b o,s'.E b=some o->(S i).E b=some o)(al:∀b o,s'.H b=some o->(S i).H b=some o):B8 t w N (upd S i s') Sh:=by
 have Y:∀j b o,(upd S i s' j).E b=some o->(S j).E b=some o:=by
  intro j b o K;by_cases e:j=i;subst e;rw[upd_same] at K;exact ai b o K;rwa[upd_ne _ _ e] at K
 have e2:∀j b o,(upd S i s' j).H b=some o->(S j).H b=some o:=by
  intro j b o K;by_cases e:j=i;subst e;rw[upd_same] at K;exact al b o K;rwa[upd_ne _ _ e] at K
 have n1:∀j b,(S j).E b=none->(upd S i s' j).E b=none:=by
  intro j b hb;cases U:(upd S i s' j).E b with
  | none=>rfl
  | some o=>rw[Y j b o U] at hb;cases hb
 have n2:∀j b,(S j).H b=none->(upd S i s' j).H b=none:=by
  intro j b hb;cases U:(upd S i s' j).H b with
  | none=>rfl
  | some o=>rw[e2 j b o U] at hb;cases hb
 have p1:∀j b,(upd S i s' j).E b≠none->(S j).E b≠none:=λj b hb x=>hb (n1 j b x);have p2:∀j b,(upd S i s' j).H b≠none->(S j).H b≠none:=λj b hb x=>hb (n2 j b x);exact⟨λj O=>⟨λb o K=>(h.fits j O).e b o (Y j b o K),λb o K=>(h.fits j O).h b o (e2 j b o K),λb hb=>n2 j b ((h.fits j O).d b (p1 j b hb))⟩,
  λa c Z ac ag b hb=>⟨n2 c b (h.hh a c Z ac ag b (p2 a b hb)).1,n1 c b (h.hh a c Z ac ag b (p2 a b hb)).2⟩,
  λj O b hb=>⟨n2 j b (h.sh j O b hb).1,n1 j b (h.sh j O b hb).2⟩,h.GU,h.clean,h.low,
  λj O b hb=>h.kH j O b (p2 j b hb),λj O b hb=>h.kE j O b (p1 j b hb)⟩
theorem B8.push(h:B8 t w N S Sh)(hi:i<N){E:LH}(ac:∀b o,E b=some o->(S i).E b=some o)
  (al:∀b,E b≠none->∀x a,touchAt t x=some a->C4 a.loc=some b->a.write=true->Knows t N x):B8 t w (N+1) (upd S N ⟨E,λ_=>none,false⟩) Sh:=by
 have O:∀j,j<N->upd S N ⟨E,λ_=>none,false⟩ j=S j:=λj K=>upd_ne _ _ (by omega);have ap:∀b,E b≠none->(S i).E b≠none:=λb hb=>by let⟨o,Y⟩:=IG hb;rw[ac b o Y];simp
 have ai:∀b,(S i).E b=none->E b=none:=λb hb=>by
  cases ag:E b with
  | none=>rfl
  | some o=>rw[ac b o ag] at hb;cases hb
 have cs:∀j,j<N+1->j<N∨j=N:=λj K=>by omega
 constructor;intro j K;rcases cs j K with K | rfl;rw[O j K];exact h.fits j K;rw[upd_same];exact⟨λb o Y=>(h.fits i hi).e b o (ac b o Y),λb o Y=>(by cases Y),λb _=>V⟩
 .intro a c U Z am b hb;rcases cs a U with U | rfl
  .rw [O a U] at hb;rcases cs c Z with Z | rfl;rw[O c Z];exact h.hh a c U Z am b hb
   .rw [upd_same];refine⟨V,ai b ?_⟩;by_cases e:a=i
    .subst e;cases ag:(S a).E b with
     | none=>rfl
     | some o=>exact absurd ((h.fits a U).d b (by rw[ag];simp)) hb
    .exact(h.hh a i U hi e b hb).2
  .rw [upd_same] at hb;exact absurd V hb
 intro j K b hb;rcases cs j K with K | rfl;rw[O j K];exact h.sh j K b hb;rw[upd_same];exact⟨V,ai b (h.sh i hi b hb).2⟩;exact h.GU;exact h.clean;exact h.low;intro j K b hb;rcases cs j K with K | rfl;rw[O j K] at hb;exact h.kH j K b hb;rw[upd_same] at hb;exact absurd V hb;intro j K b hb;rcases cs j K with K | rfl;rw[O j K] at hb;exact h.kE j K b hb;rw[upd_same] at hb;exact al b hb
theorem B8.share(h:B8 t w N S Sh)(hi:i<N){b₀:Nat}{o₀:Obj}(U:(S i).H b₀=some o₀):
  B8 t w N (upd S i {S i with H:=λb=>if b=b₀ then none else(S i).H b}) (λb=>Sh b∨b=b₀):=by
 have K:B8 t w N (upd S i {S i with H:=λb=>if b=b₀ then none else(S i).H b}) Sh:=
  h.less (λb o O=>O) (λb o O=>by simp only at O;split at O<;>first | (cases O;done) | exact O)
 have ac:b₀<w.heap.size:=by
  have:=(h.fits i hi).h b₀ o₀ U;rcases mt b₀ w.heap.size with Y | Y;exact Y;simp[py Y] at this
 refine⟨K.fits,K.hh,λj Z b hb=>?_,λb hb=>hb.elim (K.GU b) (λe=>e▸ac),K.clean,K.low,K.kH,K.kE⟩;rcases hb with hb | rfl;exact K.sh j Z b hb
 .by_cases e:j=i
  .subst e;rw[upd_same];refine⟨by simp,?_⟩;cases ag:(S j).E b with
   | none=>rfl
   | some o=>have:=(h.fits j Z).d b (by rw[ag];simp);rw[U] at this;cases this
  .rw [upd_ne _ _ e];exact h.hh i j hi Z (p6 e) b (by rw[U];simp)
end
open Go.ConcN (sumTo sumTo_upd)
abbrev GP:=Gs_
structure M4 where
 l:Bool
 k:Bool
 s:Bool
 w:Nat
instance:DecidableEq M4:=λa b=>decidable_of_iff (a.l=b.l/\a.k=b.k/\a.s=b.s/\a.w=b.w) ⟨λh=>by cases a;cases b;simp_all,λh=>by subst h;simp⟩
def M4.zero:M4:=⟨false,false,false,0⟩
def M4.num(m:M4):Int:=((m.l.toNat+2*m.k.toNat+4*m.s.toNat+8*m.w:Nat):Int)
inductive LP where
 | Gv | HN | EC (sv aw:Bool) (it:Nat) | Cw (sv aw:Bool) (it:Nat) (old:M4) | IZ (sv:Bool) | CI (sv:Bool) | Gs | EW (sv:Bool) | EA (ex:Bool) | len | Mf | K1 | F0
 | Hf | K5 | K6 | K0 | Ir | Ff (old:M4) | HU | FE (st:Bool) | FG
inductive Ph where
 | HQ (k:Nat) | Hc | Jz | HS | Hs | HL | FJ
 | DF | Gu (m:Nat) | HV (v:Nat) | Ix | FV | HM | GA | GV | Ij
 | GW (j:Nat) | I7 (j:Nat) | Im (j:Nat) | Hy (j:Nat) | Ge (j:Nat) | Hv | Gb (K:List Nat) (vs:Lv_)
 | Iu | Jc | I9 | Je (j:Nat)
 | lk (k:Nat) (p:LP)
inductive Nx where
 | ph (p:Ph) | gone (d:Nat)
structure Fam where
 wg:Nat
 mu:Nat
 fd:Nat
 ty:TypeId
 jm:TypeId
 jx:TypeId
 n:Nat
 msg:Nat->Value->LH->Prop
 fin:GP
namespace Fam
variable (F:Fam)
def has(_:Fam)(_:Nat):Bool:=false
def KK:Int:=4294967296
def It(st sm:Int):Obj:=.cells #[.int .u64 st,.int .u32 sm] F.ty (0,0)
def word(v wt:Nat):Int:=(v:Int)*KK+wt
def WG(w:World)(v wt sm:Nat):Prop:=w.heap[F.wg]?=some (F.It (word v wt) sm)
def put(w:World)(v wt sm:Nat):World:={w with heap:=w.heap.setIfInBounds F.wg (F.It (word v wt) sm)}
def sA:Addr:=⟨F.wg,0,none⟩
def mA:Addr:=⟨F.wg,1,none⟩
def Iw(st sm:Int):Obj:=.cells #[.int .i32 st,.int .u32 sm] F.jm (0,0)
def MU(w:World)(m:M4)(q:Nat):Prop:=w.heap[F.mu]?=some (F.Iw m.num q)
def Gc(w:World)(m:M4)(q:Nat):World:={w with heap:=w.heap.setIfInBounds F.mu (F.Iw m.num q)}
def uA:Addr:=⟨F.mu,0,none⟩
def qA:Addr:=⟨F.mu,1,none⟩
def Jg(f:Nat->Value):Obj:=.cells (Array.ofFn λi:Fin F.n=>f i) F.jx (0,0)
def FD(w:World)(f:Nat->Value):Prop:=w.heap[F.fd]?=some (F.Jg f)
def HW(w:World)(f:Nat->Value):World:={w with heap:=w.heap.setIfInBounds F.fd (F.Jg f)}
def Cn(a:Addr):Event:=⟨.cell a,false,true⟩
def EN(a:Addr):Event:=⟨.cell a,true,true⟩
def CR(m:Mark):Event:=⟨.mark m,false,true⟩
def act:Ph->Nat->Nat->Nat->Option ((Nat×Nat×Nat)×Array Event×Nx)
 | .Hc,v,wt,sm=>some ((v,wt,sm),#[CR (.releaseMerge F.sA)],.ph .Jz)
 | .Jz,v,wt,sm=>some ((v,wt,sm),#[CR .disable],.ph .HS)
 | .HS,v,wt,sm=>if 1<=v/\v<2147483648/\wt<=1 then some ((v - 1,wt,sm),#[Cn F.sA,EN F.sA],if v=1/\wt=1 then .ph .Hs else .gone 1) else none
 | .Hs,v,wt,sm=>if v=0/\wt=1 then some ((0,1,sm),#[Cn F.sA],.ph .HL) else none
 | .HL,v,wt,sm=>if v=0/\wt=1 then some ((0,0,sm),#[EN F.sA],.ph .FJ) else none
 | .FJ,v,wt,sm=>if sm=0 then some ((v,wt,1),semEvents F.mA,.gone 1) else none
 | .DF,v,wt,sm=>some ((v,wt,sm),#[CR .disable],.ph (.Gu F.n))
 | .Gu m,v,wt,sm=>if v<=m/\wt=0 then some ((v,0,sm),#[Cn F.sA],if v=0 then .ph .GA else .ph (.HV v)) else none
 | .HV m,v,wt,sm=>if v<=m/\1<=m/\wt=0 then some (if v=m then((v,1,sm),#[Cn F.sA,EN F.sA],.ph .Jc) else((v,0,sm),#[Cn F.sA],.ph (.Gu (m - 1)))) else none
 | .Ix,v,wt,sm=>some ((v,wt,sm),#[CR (.write F.mA)],.ph .FV)
 | .FV,v,wt,sm=>if sm=1 then some ((v,wt,0),semEvents F.mA,.ph .HM) else none
 | .HM,v,wt,sm=>if v=0/\wt=0 then some ((0,0,sm),#[Cn F.sA],.ph .GA) else none
 | .GA,v,wt,sm=>some ((v,wt,sm),#[CR .enable],.ph .I9)
 | .Iu,v,wt,sm=>some ((v,wt,sm),#[],.ph .Hc)
 | .Jc,v,wt,sm=>some ((v,wt,sm),#[],.ph .Ix)
 | .I9,v,wt,sm=>some ((v,wt,sm),#[],.ph .GV)
 | .Je j,v,wt,sm=>some ((v,wt,sm),#[],.ph (.Im j))
 | .GW j,v,wt,sm=>some ((v,wt,sm),#[CR .disable],.ph (.I7 j))
 | .I7 j,v,wt,sm=>if v<2147483647/\wt=0 then some ((v+1,0,sm),#[Cn F.sA,EN F.sA],if v=0 then .ph (.Je j) else .ph (.Hy j)) else none
 | .Im j,v,wt,sm=>some ((v,wt,sm),#[CR (.read F.mA)],.ph (.Hy j))
 | .Hy j,v,wt,sm=>some ((v,wt,sm),#[CR .enable],.ph (.Ge j))
 | _,_,_,_=>none
abbrev LO:=M4×Nat×Array Event×Option LP
def FX(sv aw:Bool)(it:Nat)(old m:M4)(q:Nat):List LO:=
 (if old.l=true/\old.s=false/\it<4 then
  (if aw=false/\old.k=false/\old.w≠0 then
   [if m=old then({m with k:=true},q,#[Cn F.uA,EN F.uA],some (.EC sv true (it+1))) else(m,q,#[Cn F.uA],some (.EC sv aw (it+1)))]
  else [(m,q,#[],some (.Cw sv aw (it+1) m))])
 else [])++
 (if m=old then
  (if old.l=false/\old.s=false then [({m with l:=true,k:= !aw&&m.k},q,#[Cn F.uA,EN F.uA],some .len)]
  else [({m with k:= !aw&&m.k,s:=m.s || (sv&&m.l),w:=m.w+1},q,#[Cn F.uA,EN F.uA],some (.IZ sv)),({m with k:= !aw&&m.k,s:=m.s || (sv&&m.l),w:=m.w+1},q,#[Cn F.uA,EN F.uA],some (.CI sv))])
 else [(m,q,#[Cn F.uA],some (.EC sv aw it))])
def B9:LP->M4->Nat->List LO
 | .Gv,m,q=>[(m,q,#[CR .disable],some .HN)]
 | .HN,m,q=>if m=M4.zero then [(⟨true,false,false,0⟩,q,#[Cn F.uA,EN F.uA],some .len)] else [(m,q,#[Cn F.uA],some (.EC false false 0))]
 | .EC sv aw it,m,q=>[(m,q,#[],some (.Cw sv aw it m))]
 | .Cw sv aw it old,m,q=>F.FX sv aw it old m q
 | .IZ sv,m,q=>[(m,q,#[],some (.CI sv))]
 | .CI sv,m,q=>[(m,q - 1,semEvents F.qA,some (if sv then .EW true else .Gs))]
 | .Gs,m,q=>[(m,q,#[],some (.EW false)),(m,q,#[],some (.EW true))]
 | .EW sv,m,q=>if m.s=true then [(m,q,#[],some (.EA (!sv || m.w==1)))] else [(m,q,#[],some (.Cw sv true 0 m))]
 | .EA ex,m,q=>[(⟨true,m.k,!ex,m.w - 1⟩,q,#[Cn F.uA,EN F.uA],some .len)]
 | .len,m,q=>[(m,q,#[CR .enable],some .Mf)]
 | .Mf,m,q=>[(m,q,#[],some .K1)]
 | .K1,m,q=>[(m,q,#[CR (.acquire F.uA)],some .F0)]
 | .F0,_,_=>[]
 | .Hf,m,q=>[(m,q,#[],some .K5)]
 | .K5,m,q=>[(m,q,#[],some .K6)]
 | .K6,m,q=>[(m,q,#[CR (.releaseMerge F.uA)],some .K0)]
 | .K0,m,q=>[(m,q,#[CR .disable],some .Ir)]
 | .Ir,m,q=>[({m with l:=false},q,#[Cn F.uA,EN F.uA],some (if m.s=true then .FE true else if m.k=false/\m.w≠0 then .Ff {m with l:=false} else .FG))]
 | .Ff old,m,q=>if m=old then [(⟨false,true,false,old.w - 1⟩,q,#[Cn F.uA,EN F.uA],some (.FE false))] else [(m,q,#[Cn F.uA],some .HU)]
 | .HU,m,q=>[(m,q,#[],some (if m.l=false/\m.k=false/\m.s=false/\m.w≠0 then .Ff m else .FG))]
 | .FE _,m,q=>[(m,q+1,semEvents F.qA,some .FG)]
 | .FG,m,q=>[(m,q,#[CR .enable],none)]
def CN:Ph->Bool
 | .GW _ | .I7 _ | .Im _ | .Hy _ | .Ge _ | .Hv | .Gb _ _ | .Je _=>true
 | .DF | .Gu _ | .HV _ | .Ix | .FV | .HM | .GA | .GV | .Ij | .Jc | .I9=>true
 | _=>false
def CZ:Ph->Bool
 | .Jz | .HS | .Hs | .HL | .FJ=>true
 | _=>false
def Kw:Ph->St->St
 | .Hc,_=>.quiet
 | _,s=>s
def start(_:Fam)(k:Nat):Ph:=.lk k .Gv
def FQ(j:Nat):Ph:=if j+1=F.n then .Hv else .GW (j+1)
def EZ(j:Nat):Ph:=if j+1=F.n then .DF else .GW (j+1)
def Dm(k:Nat):Option LP->Ph
 | some p=>.lk k p
 | none=>.Iu
end Fam
def Dk(m:M4):Prop:=m.w<134217728
def Ec:LP->M4->Nat->Prop
 | .Cw sv aw it old,m,_=>(aw=true->old.k=true)/\(sv=true->aw=true)/\it<=4/\Dk old/\Dk m/\(aw=true->m.k=true)
 | .EC sv aw it,m,_=>(sv=true->aw=true)/\it<=4/\Dk m/\(aw=true->m.k=true)
 | .CI _,_,q=>q≠0
 | .EW _,m,_=>(m.s=true->m.l=false/\m.k=false/\m.w≠0)/\(m.s=false->m.k=true)/\Dk m
 | .EA ex,m,_=>m.s=true/\m.l=false/\m.k=false/\1<=m.w/\(ex=false->2<=m.w)/\Dk m
 | .Ir,m,_=>m.l=true/\Dk m
 | .Ff old,m,_=>old.l=false/\old.k=false/\old.s=false/\old.w≠0/\Dk old/\Dk m
 | .FE _,m,q=>q<=1/\Dk m
 | _,m,_=>Dk m
def Way(P:Program)(main:Bool)(X:GP):GP:=(A0 P main).ok X
theorem Jr.M{P:Program}{main:Bool}{Q K:GP}(h:∀g s,Q g s->K g s):∀{r:Rk}{g:Goroutine}{s:St},Jr P main Q r g s->Jr P main K r g s
 | .leaf,_,_,x=>h _ _ x
 | .node _,_,_,.inl x=>.inl (h _ _ x)
 | .node _,_,_,.inr ⟨O,x⟩=>.inr ⟨O,λw f=>let ⟨g',s',w',es,U,Y,Z⟩:=x w f;⟨g',s',w',es,U,Jr.M h Y,Z⟩⟩
variable{main:Bool}{g:Goroutine}{s:St}
theorem Way.M{P:Program}{Q K:GP}(h:∀g s,Q g s->K g s)(x:Way P main Q g s):Way P main K g s:=
 let ⟨r,O⟩:=x;⟨r,Jr.M (λg s ⟨s₀,a,b⟩=>⟨s₀,a,h g s₀ b⟩) O⟩
def Ha(w K w':World):Prop:=w'.heap=K.heap/\w'.tape=w.tape/\GZ w.os w'.os/\w'.output=w.output
variable{X:Ph->GP}{p:Ph}
section
variable (P:Program)(F:Fam)
def Oc(X:Ph->GP)(main:Bool):Nx->GP
 | .ph p,g,s=>Way P main (X p) g s
 | .gone d,g,_=>∃q,QuitsD P q d g
def Fam.KR(H:LH)(f:Nat->Value):LH:=λb=>if b=F.fd then some (F.Jg f) else H b
structure HC (X:Ph->GP) (p:Ph) (g:Goroutine) (s:St):Prop where
 run:g.status=.running
 offers:g.offers=none
 quiet:Fam.CZ p=true->s=.quiet
 live:Fam.CZ p=false->s.q=false
 act:∀v wt sm v' wt' sm' es K,F.act p v wt sm=some ((v',wt',sm'),es,K)->
  ∃g',(∀w,F.WG w v wt sm->stepG P (Fam.CN p) g w=.go g' (F.put w v' wt' sm') es)/\g'.status=.running/\Oc P X (Fam.CN p) K g' (Fam.Kw p s)
 JE:(p=.FJ∨∃k b,p=.lk k (.FE b))->mayWake P g=true
 FF:p=.FV->∀w v wt,F.WG w v wt 0->stepG P true g w=.go {g with status:=.blocked} w #[]
 go:∀j,p=.Ge j->∃g' child,g'.status=.running/\child.status=.running/\(∀w,stepG P true g w=.spawn g' child w #[])/\Way P false (X (F.start j)) child ⟨s.E,λ_=>none,false⟩/\Way P true (X (F.EZ j)) g' s
 lk:∀k l,p=.lk k l->l≠ .F0->∀w m q,F.MU w m q->Ec l m q->∃m' q' es x g' w',(m',q',es,x)∈F.B9 l m q/\stepG P false g w=.go g' w' es/\Ha w (F.Gc w m' q') w'/\g'.status=.running/\Way P false (X (Fam.Dm k x)) g' s
 CI:∀k sv,p=.lk k (.CI sv)->∀w m,F.MU w m 0->stepG P false g w=.go {g with status:=.blocked} w #[]
 store:∀k,p=.lk k .F0->∃v,F.msg k v s.E/\∃g',g'.status=.running/\(∀w f,F.FD w f->stepG P false g w=.go g' (F.HW w (upd f k v)) #[⟨.cell ⟨F.fd,k,none⟩,true,false⟩])/\Way P false (X (.lk k .Hf)) g' s
 fin:p=.GV->∃g',(∀w,stepG P true g w=.go g' w #[Fam.CR (.acquire F.sA)])/\∀E' f,Le s.E E'->E' F.fd=none->(∀b,E' b≠none->s.H b=none)->(∀k,k<F.n->F.msg k (f k) E')->F.fin g' ⟨E',F.KR s.H f,false⟩
theorem Oc.M{O:Ph->GP}(h:∀p g s,X p g s->O p g s){K:Nx}(x:Oc P X main K g s):Oc P O main K g s:=by
 cases K with
 | ph p=>exact Way.M (h p) x
 | gone d=>exact x
theorem HC.M{ac:Ph->GP}(h:∀p g s,X p g s->ac p g s)(x:HC P F X p g s):HC P F ac p g s where
 run:=x.run
 offers:=x.offers
 quiet:=x.quiet
 live:=x.live
 act v wt sm v' wt' sm' es ag e:=let ⟨g',K,O,U⟩:=x.act v wt sm v' wt' sm' es ag e;⟨g',K,O,U.M P h⟩
 JE:=x.JE
 FF:=x.FF
 go j e:=let ⟨g',c,K,O,U,Y,Z⟩:=x.go j e;⟨g',c,K,O,U,Y.M (h _),Z.M (h _)⟩
 lk k l e ai w m q hm al:=let ⟨m',q',es,y,g',w',K,O,U,Y,Z⟩:=x.lk k l e ai w m q hm al;⟨m',q',es,y,g',w',K,O,U,Y,Z.M (h _)⟩
 CI:=x.CI
 store k e:=let ⟨v,K,g',O,U,Y⟩:=x.store k e;⟨v,K,g',O,U,Y.M (h _)⟩
 fin:=x.fin
def Stop(p:Ph)(g:Goroutine)(s:St):Prop:=∃X:Ph->GP,(∀p g s,X p g s->HC P F X p g s)/\X p g s
variable {P F}
theorem Stop.law(h:Stop P F p g s):HC P F (Stop P F) p g s:=by
 obtain⟨X,O,K⟩:=h;exact(O p g s K).M P F λp g s K=>⟨X,O,K⟩
theorem HC.stop(h:HC P F (Stop P F) p g s):Stop P F p g s:=
 ⟨λp g s=>HC P F (Stop P F) p g s,λ_ _ _ x=>x.M P F λ_ _ _ y=>y.law,h⟩
end
end Pal
