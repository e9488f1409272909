/- DebtOrder: a part (1 of 9) of the proof of its row. -/
import Derived.Conc.Own5
import Derived.Conc.Listed
import Derived.Conc.DeferLaws
import Derived.Orders
import Derived.Conc.Beside
set_option linter.all false
set_option maxRecDepth 100000
namespace Pal
open Go Go.Conc
theorem V{α:Sort _}{a:α}:a=a:=rfl
abbrev bN:=@List.mem_singleton
abbrev cT:=@List.getElem?_eq_getElem
abbrev d0:=@if_neg
abbrev d6:=@if_pos
abbrev d7:=@List.getElem?_eq_some_iff
abbrev d9:=@Prod.mk.injEq
abbrev f4:=@List.mem_cons_of_mem
abbrev f5:=@Bool.and_eq_true
abbrev f6:=@Option.some.inj
abbrev f7:=@List.getD_eq_getElem?_getD
abbrev f8:=@Array.getElem?_eq_some_iff
abbrev iC:=@List.mem_cons
abbrev jH:=@Nat.lt_or_ge
abbrev jK:=@List.getElem_mem
abbrev j8:=@Array.getD_eq_getD_getElem?
abbrev kO:=@List.mem_append
abbrev lH:=@List.all_eq_true
abbrev mt:=@Array.getElem?_setIfInBounds_ne
abbrev no:=@List.getElem?_append_right
abbrev rH:=@List.mem_range
abbrev rJ:=@Nat.le_refl
abbrev rO:=@List.not_mem_nil
abbrev rQ:=@List.getElem?_append_left
abbrev rR:=@Array.getElem?_setIfInBounds_self_of_lt
abbrev rS:=@List.length_append
abbrev rT:=@Nat.le_of_ble_eq_true
abbrev rU:=@Bool.toNat_false
abbrev rW:=@List.length_set
abbrev rX:=@List.mem_cons_self
abbrev rY:=@Bool.false_eq_true
abbrev rZ:=@Array.getElem?_eq_none
abbrev r0:=@List.perm_append_comm
abbrev r4:=@List.length_cons
abbrev r5:=@congrArg
abbrev r6:=@List.perm_middle
abbrev r7:=@List.mem_of_getElem?
abbrev r8:=@Bool.toNat_true
abbrev r9:=@List.append_nil
abbrev sa:=@List.eq_nil_of_length_eq_zero
abbrev sb:=@List.append_assoc
abbrev sc:=@List.mem_append_right
abbrev sd:=@List.getElem?_eq_none
abbrev se:=@List.take_length
abbrev sf:=@Array.getElem?_eq_getElem
abbrev si:=@List.getElem?_toArray
abbrev sj:=@List.mem_map
abbrev sk:=@List.getElem?_map
abbrev sn:=@Nat.pow_le_pow_right
abbrev so:=@List.mem_iff_getElem?
abbrev sr:=@Option.map_eq_some_iff
abbrev ss:=@List.Perm.refl
abbrev su:=@List.flatten_cons
abbrev sy:=@Ne.symm
abbrev sz:=@decide_eq_false
abbrev sB:=@List.map_append
abbrev sC:=@Nat.zero_le
abbrev sD:=@List.mem_append_left
abbrev sE:=@List.take_add_one
abbrev sF:=@Nat.eq_zero_or_pos
abbrev sG:=@Nat.le_trans
abbrev sH:=@Nat.mul_le_mul_right
abbrev sI:=@if_false
abbrev sJ:=@Int.toNat_natCast
abbrev sK:=@Array.ext_getElem?
abbrev sL:=@decide_eq_true
abbrev sM:=@Array.getElem?_toList
abbrev sN:=@List.map_cons
abbrev sO:=@if_true
abbrev sP:=@List.nil_append
abbrev sQ:=@Option.some.injEq
abbrev sR:=@List.nodup_append
abbrev sS:=@Nat.lt_of_lt_of_le
abbrev sT:=@Nat.succ_mul
abbrev sU:=@Option.map_some
abbrev sW:=@Bool.or_eq_true
abbrev sX:=@or_false
abbrev sY:=@Nat.add_zero
abbrev sZ:=@List.find?_range_eq_some
abbrev s0:=@Array.getElem?_append_left
abbrev s3:=@List.getElem?_cons_zero
abbrev s4:=@List.take_of_length_le
abbrev s5:=@Array.ext'
abbrev s6:=@Classical.choose_spec
abbrev s7:=@List.length_singleton
abbrev s9:=@List.ext_getElem?
abbrev ta:=@List.getElem?_take
abbrev tb:=@List.getElem?_set_ne
abbrev tc:=@List.mem_toArray
abbrev td:=@Decidable.byContradiction
abbrev tf:=@of_decide_eq_true
abbrev tg:=@decide_eq_true_eq
abbrev th:=@List.foldl_append
abbrev ti:=@List.mem_of_mem_eraseIdx
abbrev tj:=@Option.toList_some
abbrev tk:=@List.length_eq_zero_iff
abbrev tl:=@List.cons_append
abbrev tn:=@List.length_take
abbrev tp:=@List.getElem?_set
abbrev tq:=@List.foldl_cons
abbrev tr:=@beq_iff_eq
abbrev ts:=@List.length_map
abbrev tt:=@List.drop_eq_getElem_cons
abbrev tu:=@Array.getElem?_modify
abbrev tv:=@Array.mem_append
abbrev tx:=@Nat.zero_add
abbrev tz:=@List.sum_cons
abbrev tA:=@List.getElem?_cons_succ
abbrev tB:=@Decidable.not_not
abbrev tC:=@List.flatten_append
abbrev tD:=@List.eraseIdx_append_of_length_le
abbrev tE:=@List.getElem?_set_self
abbrev tF:=@List.length_eraseIdx_of_lt
abbrev tG:=@List.findIdx_lt_length_of_exists
abbrev tH:=@Array.getElem?_map
abbrev tI:=@Bool.false_ne_true
abbrev tJ:=@Nat.lt_of_le_of_lt
abbrev tK:=@List.mem_or_eq_of_mem_set
abbrev tL:=@Array.mapM_eq_mapM_toList
abbrev tM:=@Nat.add_mul
abbrev tN:=@Nat.min_eq_left
abbrev tO:=@Nat.sub_zero
abbrev tP:=@List.eq_of_mem_replicate
abbrev tQ:=@List.mem_filter
abbrev tR:=@Nat.pow_lt_pow_right
abbrev tS:=@List.size_toArray
abbrev tT:=@Option.bind_eq_some_iff
abbrev tU:=@List.getElem?_replicate
abbrev tV:=@List.mem_flatten
abbrev tW:=@List.find?_cons_of_neg
abbrev tX:=@Nat.testBit_lt_two_pow
abbrev tY:=@Nat.zero_mul
abbrev tZ:=@Array.all_eq_true'
abbrev t6:=@List.pairwise_cons
abbrev t7:=@List.find?_eq_none
abbrev t8:=@Int.fdiv_eq_ediv_of_nonneg
abbrev t9:=@Nat.add_assoc
abbrev ua:=@Bool.not_eq_true'
abbrev ub:=@Nat.or_lt_two_pow
abbrev uc:=@Nat.shiftRight_eq_div_pow
abbrev ud:=@Classical.byContradiction
abbrev ue:=@List.findIdx_getElem
abbrev uf:=@iff_of_false
abbrev ug:=@List.getElem?_range
abbrev uh:=@Array.toList_filter
abbrev ui:=@List.countP_pos_iff
abbrev uj:=@Int.toNat_of_nonneg
abbrev uk:=@Bool.toNat_le
abbrev ul:=@List.set_cons_zero
abbrev um:=@Option.isSome_none
abbrev un:=@List.nodup_cons
abbrev uo:=@List.forIn_cons
abbrev uq:=@Nat.two_pow_pos
abbrev ur:=@List.drop_eq_nil_of_le
abbrev ut:=@Bool.eq_false_iff
abbrev uu:=@List.length_range
abbrev uv:=@List.length_replicate
abbrev uw:=@List.forIn_nil
abbrev ux:=@Array.mem_toList_iff
abbrev uy:=@BitVec.ofInt_natCast
abbrev uz:=@BitVec.toNat_and
abbrev uB:=@Nat.eq_of_testBit_eq
abbrev uC:=@List.mem_map_of_mem
abbrev uD:=@List.replicate_succ
abbrev uE:=@Std.Legacy.Range.forIn_eq_forIn_range'
abbrev uF:=@Nat.testBit_two_pow
abbrev uG:=@Nat.testBit_and
abbrev uH:=@Option.isSome_iff_exists
abbrev uI:=@List.set_cons_succ
abbrev uJ:=@Array.append_empty
abbrev uK:=@Option.isSome_some
abbrev uL:=@Array.setIfInBounds_comm
abbrev uM:=@Nat.sub_self
abbrev uN:=@BitVec.toNat_ofNat
abbrev uO:=@List.getElem?_drop
abbrev uP:=@Array.forIn_toList
abbrev uQ:=@List.zip_cons_cons
abbrev uR:=@Bool.eq_false_or_eq_true
abbrev uS:=@Nat.one_le_two_pow
abbrev uT:=@List.map_singleton
abbrev uU:=@Nat.mod_lt
abbrev uV:=@List.drop_zero
abbrev uW:=@List.find?_map
abbrev uX:=@Array.getElem?_extract
abbrev uY:=@iff_of_true
abbrev uZ:=@Bool.false_or
abbrev u0:=@Array.toList_map
abbrev u1:=@Int.max_eq_right
abbrev u2:=@Int.min_eq_right
abbrev u3:=@Array.mem_iff_getElem
abbrev u4:=@List.Perm.append_left
abbrev u5:=@List.eraseIdx_eq_take_drop_succ
abbrev u6:=@List.length_nil
abbrev u7:=@List.cons.injEq
abbrev u9:=@List.mem_iff_getElem
abbrev vb:=@List.mem_of_mem_take
abbrev vc:=@Nat.pow_succ
abbrev vd:=@Int.min_eq_left
abbrev ve:=@Int.max_eq_left
abbrev vf:=@List.count_cons
abbrev vg:=@List.take_append_of_le_length
abbrev vh:=@Nat.shiftLeft_add_eq_or_of_lt
abbrev vi:=@Int.mul_le_mul_of_nonneg_left
abbrev vj:=@Array.getElem?_push
abbrev vk:=@List.length_pos_iff
abbrev vl:=@beq_eq_false_iff_ne
abbrev vm:=@List.filter_eq_self
abbrev vn:=@Array.length_toList
abbrev vp:=@List.filterMap_cons
abbrev vq:=@List.mapM_cons
abbrev vr:=@List.nodup_nil
abbrev vu:=@of_decide_eq_false
abbrev vv:=@List.mem_filterMap
abbrev vw:=@BitVec.toNat_ofInt
abbrev vx:=@Nat.testBit_two_pow_sub_one
abbrev vy:=@List.set_comm
abbrev vz:=@List.perm_append_singleton
abbrev vA:=@List.exists_cons_of_ne_nil
abbrev vB:=@Classical.not_not
abbrev vC:=@List.pairwise_map
abbrev vD:=@List.exists_mem_of_ne_nil
abbrev vE:=@List.zipIdx_cons
abbrev vF:=@Nat.add_comm
abbrev vG:=@List.getElem?_take_of_lt
abbrev vH:=@Nat.le_of_not_lt
abbrev vI:=@List.flatten_nil
abbrev vJ:=@Prod.ext
abbrev vK:=@Array.toList_inj
abbrev vL:=@List.mem_flatMap
abbrev vM:=@Int.mul_comm
abbrev vN:=@Nat.lt_succ_iff_lt_or_eq
abbrev vO:=@List.length_filterMap_le
abbrev vP:=@decide_eq_false_iff_not
abbrev vQ:=@List.filter_cons_of_neg
abbrev vR:=@List.filter_cons_of_pos
abbrev vS:=@List.of_mem_zip
abbrev vT:=@BitVec.toNat_or
abbrev vU:=@Nat.and_le_left
abbrev vV:=@List.range_succ
abbrev vW:=@Int.le_refl
abbrev vX:=@Bool.not_false
abbrev vY:=@List.contains_iff_mem
abbrev vZ:=@Nat.testBit_or
abbrev v3:=@List.foldl_nil
abbrev v5:=@and_true
abbrev v7:=@List.pairwise_append
abbrev v8:=@Bool.not_true
abbrev v9:=@Nat.ne_of_lt
abbrev wa:=@List.set_set
abbrev wb:=@List.map_nil
abbrev wc:=@List.sum_nil
abbrev wd:=@and_self
abbrev we:=@congrFun
abbrev wh:=@true_and
abbrev tR_(n m:Nat):Array Bool:=⟨List.replicate n true++List.replicate m false⟩
abbrev LH:=Nat->Option Obj
structure St where
 E:LH
 H:LH
 q:Bool
abbrev Ld_:=List Deferred
abbrev Ao_:=Array Oper
abbrev Li_:=List Item
abbrev Lf_:=List Frame
abbrev On_:=Option (Nat×Bool)
abbrev Ae_:=Array Edge
abbrev Gs_:=Goroutine->St->Prop
abbrev Lv_:=List Value
abbrev Av_:=Array Value
def St.get(s:St)(b:Nat):Option Obj:=match s.E b with | some o=>some o | none=>s.H b
structure Fits (s:St) (w:World):Prop where
 e:∀b o,s.E b=some o->w.heap[b]?=some o
 h:∀b o,s.H b=some o->w.heap[b]?=some o
 d:∀b,s.E b≠none->s.H b=none
variable{w:World}{o:Obj}
theorem Fits.get{s:St}(f:Fits s w){b:Nat}(h:s.get b=some o):w.heap[b]?=some o:=by
 unfold St.get at h;split at h;rename_i o' K;cases h;exact f.e _ _ K;exact f.h _ _ h
theorem Fits.YF{s:St}(f:Fits s w){b:Nat}(h:s.H b=some o):b<w.heap.size:=by
 have:=f.h _ _ h;rcases jH b w.heap.size with K | K;exact K;simp[rZ K] at this
theorem Fits.lt{s:St}(f:Fits s w){b:Nat}(h:s.get b=some o):b<w.heap.size:=by
 have:=f.get h;rcases jH b w.heap.size with K | K;exact K;simp[rZ K] at this
def cellAt(o:Obj)(a:Addr):Option Value:=match o with | .cells c _ _=>if a.spot.isSome then none else c[a.off]? | _=>none
def frozenAt(o:Obj)(a:Addr):Bool:=match o with | .cells _ _ (lo,hi)=>lo<=a.off&&a.off<hi | _=>false
def shapeOf(o:Obj):Option (TypeId×Nat):=match o with | .cells c e _=>some (e,c.size) | _=>none
def C5:Value->Bool | .agg _ | .tuple _=>false | _=>true
def Mg(o:Obj)(a:Addr)(v:Value):Obj:=match o with | .cells c e f=>.cells (if a.spot.isSome then c else c.setIfInBounds a.off v) e f | o=>o
def K2(o:Obj):Bool:=match o with | .cells ..=>false | .chan ..=>false | .pending ..=>false | .view ..=>false | .number ..=>false | _=>true
def St.cell? (s:St)(a:Addr):Option Value:=(s.get a.block).bind (cellAt · a)
def St.upd(s:St)(b:Nat)(o:Obj):St:={s with H:=λx=>if x=b then some o else s.H x}
theorem UA{a:Addr}(h:w.heap[a.block]?=some o):w.cell? a=cellAt o a:=by
 unfold World.cell? cellAt;rw[h];cases o<;>rfl
theorem Uc{a:Addr}(h:w.heap[a.block]?=some o):w.frozen? a=frozenAt o a:=by
 unfold World.frozen? frozenAt;rw[h];cases o<;>rfl
theorem Zp{b:Nat}(h:w.heap[b]?=some o):w.shape? b=shapeOf o:=by
 unfold World.shape? shapeOf;rw[h];cases o<;>rfl
def lp(P:Program){α:Type}:Sem α->St->(α->St->Prop)->(Halt->St->Prop)->Prop
 | .pure a,s,Q,_=>Q a s
 | .load m a k,s,Q,X=>m=.plain/\∃v,s.cell? a=some v/\lp P (k v) s Q X
 | .store m a v k,s,Q,X=>m=.plain/\C5 v=true/\∃o,s.H a.block=some o/\(cellAt o a).isSome=true/\frozenAt o a=false/\lp P k (s.upd a.block (Mg o a v)) Q X
 | .new o k,s,Q,X=>s.q=false/\∀r,s.E r=none->s.H r=none->lp P (k r) (s.upd r o) Q X
 | .shape r k,s,Q,X=>∃o,s.get r=some o/\lp P (k (shapeOf o)) s Q X
 | .freeze _ _ _,_,_,_=>False
 | .frozen a k,s,Q,X=>∃o,s.get a.block=some o/\lp P (k (frozenAt o a)) s Q X
 | .getObj r k,s,Q,X=>∃o,s.get r=some o/\K2 o=true/\lp P (k o) s Q X
 | .setObj r o k,s,Q,X=>(∃o₀,s.H r=some o₀/\K2 o₀=true)/\K2 o=true/\lp P k (s.upd r o) Q X
 | .choose q k,s,Q,X=>if q.forced then lp P (k 0) s Q X else s.q=false/\∀t,lp P (k (q.cut t)) s Q X
 | .sys _ _,_,_,_=>False
 | .program k,s,Q,X=>lp P (k P) s Q X
 | .mark m k,s,Q,X=>((s.q=false/\m=.noRoom)∨∃f,m=.extern f)/\lp P k s Q X
 | .halt h,s,_,X=>X h s
variable{α:Type}
theorem Es{P:Program}(x:Sem α):∀{s:St}{Q Y:α->St->Prop}{X Z:Halt->St->Prop},lp P x s Q X->(∀a s,Q a s->Y a s)->(∀h s,X h s->Z h s)->lp P x s Y Z:=by
 induction x with
 | pure a=>intro s Q Y X Z h K O;exact K _ _ h
 | load m a k U=>intro s Q Y X Z h K O;obtain⟨ac,v,ag,al⟩:=h;exact⟨ac,v,ag,U _ al K O⟩
 | store m a v k U=>intro s Q Y X Z h K O;obtain⟨ac,ag,o,al,ap,aq,av⟩:=h;exact⟨ac,ag,o,al,ap,aq,U av K O⟩
 | new o k U=>intro s Q Y X Z h K O;exact⟨h.1,λr ac ag=>U _ (h.2 r ac ag) K O⟩
 | shape r k U=>intro s Q Y X Z h K O;obtain⟨o,ac,ag⟩:=h;exact⟨o,ac,U _ ag K O⟩
 | freeze a n k U=>intro s Q Y X Z h K O;exact h
 | frozen a k U=>intro s Q Y X Z h K O;obtain⟨o,ac,ag⟩:=h;exact⟨o,ac,U _ ag K O⟩
 | getObj r k U=>intro s Q Y X Z h K O;obtain⟨o,ac,ag,al⟩:=h;exact⟨o,ac,ag,U _ al K O⟩
 | setObj r o k U=>intro s Q Y X Z h K O;obtain⟨ac,ag,al⟩:=h;exact⟨ac,ag,U al K O⟩
 | choose q k U=>
  intro s Q Y X Z h K O;simp only[lp] at h ⊢;split;rename_i am;rw[d6 am] at h;exact U _ h K O;rename_i am;rw[d0 am] at h;exact⟨h.1,λt=>U _ (h.2 t) K O⟩
 | sys c k U=>intro s Q Y X Z h K O;exact h
 | program k U=>intro s Q Y X Z h K O;exact U _ h K O
 | mark m k U=>intro s Q Y X Z h K O;exact⟨h.1,U h.2 K O⟩
 | halt h=>intro s Q Y X Z h K O;exact O _ _ h
variable{β:Type}
theorem Ay{P:Program}(x:Sem α)(f:α->Sem β):∀{s:St}{Q:β->St->Prop}{X:Halt->St->Prop},lp P x s (λa s'=>lp P (f a) s' Q X) X->lp P (x>>=f) s Q X:=by
 show ∀{s:St}{Q:β->St->Prop}{X:Halt->St->Prop},lp P x s (λa s'=>lp P (f a) s' Q X) X->lp P (Sem.bind x f) s Q X
 induction x with
 | pure a=>intro s Q X h;exact h
 | load m a k K=>intro s Q X h;obtain⟨O,v,U,Y⟩:=h;exact⟨O,v,U,K _ Y⟩
 | store m a v k K=>intro s Q X h;obtain⟨O,U,o,Y,ac,ag,al⟩:=h;exact⟨O,U,o,Y,ac,ag,K al⟩
 | new o k K=>intro s Q X h;exact⟨h.1,λr O U=>K _ (h.2 r O U)⟩
 | shape r k K=>intro s Q X h;obtain⟨o,O,U⟩:=h;exact⟨o,O,K _ U⟩
 | freeze a n k K=>intro s Q X h;exact h
 | frozen a k K=>intro s Q X h;obtain⟨o,O,U⟩:=h;exact⟨o,O,K _ U⟩
 | getObj r k K=>intro s Q X h;obtain⟨o,O,U,Y⟩:=h;exact⟨o,O,U,K _ Y⟩
 | setObj r o k K=>intro s Q X h;obtain⟨O,U,Y⟩:=h;exact⟨O,U,K Y⟩
 | choose q k K=>
  intro s Q X h;simp only[lp,Sem.bind] at h ⊢;split;rename_i Z;rw[d6 Z] at h;exact K _ h;rename_i Z;rw[d0 Z] at h;exact⟨h.1,λt=>K _ (h.2 t)⟩
 | sys c k K=>intro s Q X h;exact h
 | program k K=>intro s Q X h;exact K _ h
 | mark m k K=>intro s Q X h;exact⟨h.1,K h.2⟩
 | halt h=>intro s Q X h;exact h
structure Fr (s:St) (w:World) (s':St) (w':World):Prop where
 size:w.heap.size<=w'.heap.size
 keep:∀b,b<w.heap.size->s.H b=none->w'.heap[b]?=w.heap[b]?
 own:∀b,s'.H b≠none->s.H b≠none∨w.heap.size<=b
 ext:∀b o,s.E b=some o->s'.E b=some o
 Fy:∀b,s'.E b≠none->s.E b≠none∨s.H b≠none∨w.heap.size<=b
 tape:w'.tape=w.tape
 os:w'.os=w.os
 output:w'.output=w.output
theorem Fr.refl(s:St)(w:World):Fr s w s w:=
 ⟨rJ _,λ_ _ _=>V,λ_ h=>.inl h,λ_ _ h=>h,λ_ h=>.inl h,V,V,V⟩
variable{U:World}
theorem Fr.trans{s K O:St}{Y:World}(h:Fr s w K U)(k:Fr K U O Y):Fr s w O Y where
 size:=sG h.size k.size
 keep b hb Z:=by
  rw[k.keep b (sS hb h.size) ?_,h.keep b hb Z];by_cases ac:K.H b=none;exact ac;rcases h.own b ac with x | x;exact absurd Z x;omega
 own b hb:=by
  rcases k.own b hb with x | x;exact h.own b x;exact .inr (sG h.size x)
 ext b o ag:=k.ext b o (h.ext b o ag)
 Fy b hb:=by
  rcases k.Fy b hb with x | x | x;exact h.Fy b x;rcases h.own b x with y | y;exact .inr (.inl y);exact .inr (.inr y);exact .inr (.inr (sG h.size x))
 tape:=k.tape.trans h.tape
 os:=k.os.trans h.os
 output:=k.output.trans h.output
def HA(s:St)(w w':World)(b:Nat)(write:Bool):Prop:=
 b<w'.heap.size/\(s.H b≠none∨w.heap.size<=b∨(s.E b≠none/\write=false))
def Ev(s:St)(w w':World)(e:Event):Prop:=
 match e.loc with
 | .cell a=>e.sync=false/\HA s w w' a.block e.write
 | .obj r=>e.sync=false/\HA s w w' r e.write
 | .mark (.extern _)=>True
 | .mark .noRoom=>True
 | _=>False
variable{O w':World}{wr:Bool}
theorem HA.M{s K:St}{b:Nat}(h:Fr s w K O)(Y:w'.heap.size<=U.heap.size)(t:HA K O w' b wr):HA s w U b wr:=by
 refine⟨sS t.1 Y,?_⟩;rcases t.2 with x | x | ⟨x,y⟩;rcases h.own b x with z | z;exact .inl z;exact .inr (.inl z);exact .inr (.inl (sG h.size x));rcases h.Fy b x with z | z | z;exact .inr (.inr ⟨z,y⟩);exact .inl z;exact .inr (.inl z)
theorem Ev.M{s K:St}{e:Event}(h:Fr s w K O)(Y:w'.heap.size<=U.heap.size)(t:Ev K O w' e):Ev s w U e:=by
 unfold Ev at t ⊢;split<;>rename_i he<;>simp only[he] at t;exact⟨t.1,t.2.M h Y⟩;exact⟨t.1,t.2.M h Y⟩;trivial;trivial
def Mp{α:Type}:Result α->World | .ok _ w=>w | .halt _ w=>w
def jw{α:Type}(Q:α->St->Prop)(X:Halt->St->Prop)(s:St):Result α->Prop | .ok a _=>Q a s | .halt h _=>X h s
theorem V6{s:St}{b:Nat}(h:s.get b=some o)(K:s.H b=none):s.E b≠none:=by
 intro e;unfold St.get at h;rw[e] at h;simp only at h;rw[K] at h;cases h
theorem R9{s:St}{b:Nat}(f:Fits s w)(U:s.E b=none)(hb:w'.heap[b]?=some o)(Y:∀c,c≠b->∀x,w.heap[c]?=some x->w'.heap[c]?=some x):Fits (s.upd b o) w' where
 e c x K:=by
  have O:c≠b:=λe=>by subst e;simp[St.upd] at K;rw[U] at K;cases K
  exact Y c O x (f.e c x K)
 h c x K:=by
  simp only[St.upd] at K;split at K;rename_i e;subst e;cases K;exact hb;rename_i O;exact Y c O x (f.h c x K)
 d c K:=by
  have O:c≠b:=λe=>by subst e;exact K U
  simp only[St.upd,d0 O];exact f.d c K
theorem Pk{P:Program}(x:Sem α):∀{s:St}{w:World}{Q:α->St->Prop}{X:Halt->St->Prop},lp P x s Q X->Fits s w->
  ∃s',Fits s' (Mp (x.run P w))/\Fr s w s' (Mp (x.run P w))/\(∀e∈x.events P w #[],Ev s w (Mp (x.run P w)) e)/\jw Q X s' (x.run P w):=by
 induction x with
 | pure a=>intro s w Q X h f;exact⟨s,f,.refl _ _,by simp[Sem.events_pure'],h⟩
 | load m a k O=>
  intro s w Q X h f;obtain⟨rfl,v,a4,h⟩:=h;let⟨o,K,bo⟩:=tT.1 a4;have hw:=f.get K;have a5:w.cell? a=some v:=by rw[UA hw,bo]
  have U:(Sem.load Mode.plain a k).run P w=(k v).run P w:=by simp[Sem.run,a5]
  have Y:(Sem.load Mode.plain a k).events P w #[]=#[⟨.cell a,false,false⟩]++(k v).events P w #[]:=by
   rw[← Sem.events_acc];simp only[Sem.events,Sem.runT,a5];rfl
  rw[U,Y];let⟨s',ac,Z,ag,al⟩:=O v h f;refine⟨s',ac,Z,λe he=>?_,al⟩;rcases tv.1 he with he | he;simp at he;subst he;refine⟨V,sS (f.lt K) Z.size,?_⟩;by_cases az:s.H a.block=none;refine .inr (.inr ⟨?_,V⟩);exact V6 K az;exact .inl az;exact ag e he
 | store m a v k O=>
  intro s w Q X h f;obtain⟨rfl,a4,o,K,a5,bv,h⟩:=h;have hw:=f.h _ _ K;let⟨u,hu⟩:=uH.1 a5;have bb:w.cell? a=some u:=by rw[UA hw,hu]
  have be:w.frozen? a=false:=by rw[Uc hw,bv]
  have a6:=f.YF K;obtain⟨a8,a9,f0,rfl⟩:∃c e f,o=.cells c e f:=by cases o<;>simp[cellAt] at hu;exact⟨_,_,_,V⟩
  have bw:(w.setCell a v).heap[a.block]?=some (Mg (.cells a8 a9 f0) a v):=by
   simp[World.setCell,Mg,tu,hw]
  have a0:∀c,c≠a.block->(w.setCell a v).heap[c]?=w.heap[c]? :=by
   intro c aq;simp[World.setCell,tu,sy aq]
  have ap:s.E a.block=none:=by
   cases ap:s.E a.block with
   | none=>rfl
   | some x=>have:=f.d a.block (by rw[ap];simp);rw[K] at this;cases this
  have a1:Fits (s.upd a.block (Mg (.cells a8 a9 f0) a v)) (w.setCell a v):=R9 f ap bw (λc aq x av=>by rw[a0 c aq];exact av);have U:(Sem.store Mode.plain a v k).run P w=k.run P (w.setCell a v):=by
   cases v<;>first | (simp[C5] at a4;done) | simp[Sem.run,bb,be]
  have Y:(Sem.store Mode.plain a v k).events P w #[]=#[⟨.cell a,true,false⟩]++k.events P (w.setCell a v) #[]:=by
   rw[← Sem.events_acc];cases v<;>first | (simp[C5] at a4;done) | (simp only[Sem.events,Sem.runT,bb,be];rfl)
  have am:Fr s w (s.upd a.block (Mg (.cells a8 a9 f0) a v)) (w.setCell a v):=by
   refine⟨by simp[World.setCell],λb hb aw=>a0 b (λe=>by subst e;rw[K] at aw;cases aw),λb hb=>?_,λ_ _ h=>h,λ_ h=>.inl h,V,V,V⟩;simp only[St.upd] at hb;split at hb;rename_i e;subst e;exact .inl (by rw[K];simp);exact .inl hb
  rw[U,Y];let⟨s',ac,Z,ag,al⟩:=O h a1;refine⟨s',ac,am.trans Z,λe he=>?_,al⟩;rcases tv.1 he with he | he;simp at he;subst he;exact⟨V,sS a6 (am.trans Z).size,.inl (by rw[K];simp)⟩;exact(ag e he).M am (rJ _)
 | new o k O=>
  intro s w Q X h f;have bi:s.E w.heap.size=none:=by
   cases ap:s.E w.heap.size with
   | none=>rfl
   | some x=>have:=f.e _ _ ap;simp at this
  have bx:s.H w.heap.size=none:=by
   cases ap:s.H w.heap.size with
   | none=>rfl
   | some x=>have:=f.h _ _ ap;simp at this
  have U:(Sem.new o k).run P w=(k w.heap.size).run P {w with heap:=w.heap.push o}:=by simp[Sem.run]
  have Y:(Sem.new o k).events P w #[]=(k w.heap.size).events P {w with heap:=w.heap.push o} #[]:=by simp only[Sem.events,Sem.runT]
  rw[U,Y];have a1:Fits (s.upd w.heap.size o) {w with heap:=w.heap.push o}:=R9 f bi (by simp) (λc aq x av=>by
   have:c<w.heap.size:=by
    rcases jH c w.heap.size with a2 | a2;exact a2;simp[rZ a2] at av
   simp[vj,v9 this,av])
  have am:Fr s w (s.upd w.heap.size o) {w with heap:=w.heap.push o}:=by
   refine⟨by simp,λb hb aw=>by simp[vj,v9 hb],λb hb=>?_,λ_ _ h=>h,λ_ h=>.inl h,V,V,V⟩;simp only[St.upd] at hb;split at hb;rename_i e;subst e;exact .inr (rJ _);exact .inl hb
  let⟨s',ac,Z,ag,al⟩:=O _ (h.2 _ bi bx) a1;exact⟨s',ac,am.trans Z,λe he=>(ag e he).M am (rJ _),al⟩
 | shape r k O=>
  intro s w Q X h f;obtain⟨o,K,h⟩:=h;have a3:=Zp (f.get K);have U:(Sem.shape r k).run P w=(k (shapeOf o)).run P w:=by simp[Sem.run,a3]
  have Y:(Sem.shape r k).events P w #[]=(k (shapeOf o)).events P w #[]:=by simp only[Sem.events,Sem.runT,a3]
  rw[U,Y];exact O _ h f
 | freeze a n k O=>intro s w Q X h f;exact h.elim
 | frozen a k O=>
  intro s w Q X h f;obtain⟨o,K,h⟩:=h;have a3:=Uc (a:=a) (f.get K);have U:(Sem.frozen a k).run P w=(k (frozenAt o a)).run P w:=by simp[Sem.run,a3]
  have Y:(Sem.frozen a k).events P w #[]=(k (frozenAt o a)).events P w #[]:=by simp only[Sem.events,Sem.runT,a3]
  rw[U,Y];exact O _ h f
 | getObj r k O=>
  intro s w Q X h f;obtain⟨o,K,a7,h⟩:=h;have hw:=f.get K;have U:(Sem.getObj r k).run P w=(k o).run P w:=by cases o<;>simp[K2] at a7<;>simp[Sem.run,hw]
  have Y:(Sem.getObj r k).events P w #[]=#[⟨.obj r,false,false⟩]++(k o).events P w #[]:=by
   rw[← Sem.events_acc];cases o<;>simp[K2] at a7<;>(simp only[Sem.events,Sem.runT,hw,Obj.isChan];rfl)
  rw[U,Y];let⟨s',ac,Z,ag,al⟩:=O o h f;refine⟨s',ac,Z,λe he=>?_,al⟩;rcases tv.1 he with he | he;simp at he;subst he;refine⟨V,sS (f.lt K) Z.size,?_⟩;by_cases az:s.H r=none;refine .inr (.inr ⟨?_,V⟩);exact V6 K az;exact .inl az;exact ag e he
 | setObj r o k O=>
  intro s w Q X h f;obtain⟨⟨o₀,K,bn⟩,a7,h⟩:=h;have hw:=f.h _ _ K;have a6:=f.YF K;have ap:s.E r=none:=by
   cases ap:s.E r with
   | none=>rfl
   | some x=>have:=f.d r (by rw[ap];simp);rw[K] at this;cases this
  have U:(Sem.setObj r o k).run P w=k.run P {w with heap:=w.heap.setIfInBounds r o}:=by
   cases o₀<;>simp[K2] at bn<;>simp[Sem.run,hw]
  have Y:(Sem.setObj r o k).events P w #[]=#[⟨.obj r,true,false⟩]++k.events P {w with heap:=w.heap.setIfInBounds r o} #[]:=by
   rw[← Sem.events_acc];cases o₀<;>simp[K2] at bn<;>cases o<;>simp[K2] at a7<;>(simp only[Sem.events,Sem.runT,hw,Obj.isChan];rfl)
  have a0:∀c,c≠r->(w.heap.setIfInBounds r o)[c]?=w.heap[c]? :=λc aq=>by simp[sy aq]
  have a1:Fits (s.upd r o) {w with heap:=w.heap.setIfInBounds r o}:=R9 f ap (by simp[a6]) (λc aq x av=>by show(w.heap.setIfInBounds r o)[c]?=_;rw[a0 c aq];exact av);have am:Fr s w (s.upd r o) {w with heap:=w.heap.setIfInBounds r o}:=by
   refine⟨by simp,λb hb aw=>a0 b (λe=>by subst e;rw[K] at aw;cases aw),λb hb=>?_,λ_ _ h=>h,λ_ h=>.inl h,V,V,V⟩;simp only[St.upd] at hb;split at hb;rename_i e;subst e;exact .inl (by rw[K];simp);exact .inl hb
  rw[U,Y];let⟨s',ac,Z,ag,al⟩:=O h a1;refine⟨s',ac,am.trans Z,λe he=>?_,al⟩;rcases tv.1 he with he | he;simp at he;subst he;exact⟨V,sS a6 (am.trans Z).size,.inl (by rw[K];simp)⟩;exact(ag e he).M am (rJ _)
 | choose q k O=>
  intro s w Q X h f;simp only[lp] at h;by_cases ay:q.forced
  .rw [d6 ay] at h;have U:(Sem.choose q k).run P w=(k 0).run P w:=by simp[Sem.run,ay]
   have Y:(Sem.choose q k).events P w #[]=(k 0).events P w #[]:=by simp only[Sem.events,Sem.runT];rw[d6 ay]
   rw[U,Y];exact O _ h f
  .rw [d0 ay] at h;have U:(Sem.choose q k).run P w=(k (q.cut (w.tape w.drawn q))).run P {w with drawn:=w.drawn+1}:=by simp[Sem.run,ay]
   have Y:(Sem.choose q k).events P w #[]=(k (q.cut (w.tape w.drawn q))).events P {w with drawn:=w.drawn+1} #[]:=by simp only[Sem.events,Sem.runT];rw[d0 ay]
   rw[U,Y];have am:Fr s w s {w with drawn:=w.drawn+1}:=⟨rJ _,λ_ _ _=>rfl,λ_ h=>.inl h,λ_ _ h=>h,λ_ h=>.inl h,rfl,rfl,rfl⟩;let⟨s',ac,Z,ag,al⟩:=O _ (h.2 (w.tape w.drawn q)) (⟨f.e,f.h,f.d⟩:Fits s {w with drawn:=w.drawn+1});exact⟨s',ac,am.trans Z,λe he=>(ag e he).M am (rJ _),al⟩
 | sys c k O=>intro s w Q X h f;exact h.elim
 | program k O=>
  intro s w Q X h f;have U:(Sem.program k).run P w=(k P).run P w:=by simp[Sem.run]
  have Y:(Sem.program k).events P w #[]=(k P).events P w #[]:=by simp only[Sem.events,Sem.runT]
  rw[U,Y];exact O _ h f
 | mark m k O=>
  intro s w Q X h f;have U:(Sem.mark m k).run P w=k.run P w:=by simp[Sem.run]
  have Y:(Sem.mark m k).events P w #[]=#[⟨.mark m,false,true⟩]++k.events P w #[]:=by
   rw[← Sem.events_acc];simp only[Sem.events,Sem.runT];rfl
  rw[U,Y];obtain⟨hm,h⟩:=h;let⟨s',ac,Z,ag,al⟩:=O h f;refine⟨s',ac,Z,λe he=>?_,al⟩;rcases tv.1 he with he | he;simp at he;subst he;rcases hm with⟨_,rfl⟩ | ⟨g,rfl⟩<;>trivial;exact ag e he
 | halt h=>intro s w Q X a2 f;exact⟨s,f,.refl _ _,by simp[Sem.events_halt],a2⟩
variable{es:Array Event}
theorem Ud{P:Program}{fn:FuncId}(h:∀e∈es,∃f,e.loc=.mark (.extern f)):seen P fn es=#[]:=by
 rw[seen_def];have:∀(l:List Event) (q:Bool),(∀e∈l,∃f,e.loc=.mark (.extern f))->(l.foldl (seenStep λf=>(P.funcs[f]?).any (·.norace)) (q,#[])).2=#[]:=by
  intro l
  induction l with
  | nil=>intro q _;rfl
  | cons e l K=>
   intro q h;obtain⟨f,O⟩:=h e (by simp);rw[tq];have:seenStep (λf=>(P.funcs[f]?).any (·.norace)) (q,#[]) e=((P.funcs[f]?).any (·.norace),#[]):=by simp[seenStep,O]
   rw[this];exact K _ λx U=>h x (by simp[U])
 exact this es.toList _ λe he=>h e (ux.1 he)
def St.quiet:St:=⟨λ_=>none,λ_=>none,true⟩
theorem Vj{P:Program}(x:Sem α):∀{Q:α->St->Prop}{X:Halt->St->Prop},lp P x .quiet Q X->
  ∃es,(∀w,x.events P w #[]=es)/\(∀e∈es,∃f,e.loc=.mark (.extern f))/\((∃a,Q a .quiet/\(∀w,x.run P w=.ok a w))∨(∃a,X a .quiet/\(∀w,x.run P w=.halt a w))):=by
 induction x with
 | pure a=>intro Q X h;exact⟨#[],λw=>by simp[Sem.events_pure'],by simp,.inl ⟨a,h,λw=>rfl⟩⟩
 | load m a k K=>intro Q X h;obtain⟨_,v,Z,_⟩:=h;simp[St.cell?,St.get,St.quiet] at Z
 | store m a v k K=>intro Q X h;obtain⟨_,_,o,ac,_⟩:=h;cases ac
 | new o k K=>intro Q X h;cases h.1
 | shape r k K=>intro Q X h;obtain⟨o,O,_⟩:=h;simp[St.get,St.quiet] at O
 | freeze a n k K=>intro Q X h;exact h.elim
 | frozen a k K=>intro Q X h;obtain⟨o,O,_⟩:=h;simp[St.get,St.quiet] at O
 | getObj r k K=>intro Q X h;obtain⟨o,O,_⟩:=h;simp[St.get,St.quiet] at O
 | setObj r o k K=>intro Q X h;obtain⟨⟨o,O,_⟩,_⟩:=h;cases O
 | choose q k K=>
  intro Q X h;simp only[lp] at h;by_cases U:q.forced
  .rw [d6 U] at h;have Y:∀w,(Sem.choose q k).run P w=(k 0).run P w:=λw=>by simp[Sem.run,U]
   have e2:∀w,(Sem.choose q k).events P w #[]=(k 0).events P w #[]:=λw=>by simp only[Sem.events,Sem.runT];rw[d6 U]
   simpa only[Y,e2] using K _ h
  .rw [d0 U] at h;cases h.1
 | sys c k K=>intro Q X h;exact h.elim
 | program k K=>
  intro Q X h;have Y:∀w,(Sem.program k).run P w=(k P).run P w:=λw=>by simp[Sem.run]
  have e2:∀w,(Sem.program k).events P w #[]=(k P).events P w #[]:=λw=>by simp only[Sem.events,Sem.runT]
  simpa only[Y,e2] using K _ h
 | mark m k K=>
  intro Q X h;obtain⟨hm,h⟩:=h;let⟨es,O,Z,ac⟩:=K h;have Y:∀w,(Sem.mark m k).run P w=k.run P w:=λw=>by simp[Sem.run]
  have e2:∀w,(Sem.mark m k).events P w #[]=#[⟨.mark m,false,true⟩]++k.events P w #[]:=λw=>by rw[← Sem.events_acc];simp only[Sem.events,Sem.runT];rfl
  refine⟨#[⟨.mark m,false,true⟩]++es,λw=>by rw[e2,O],λe he=>?_,by simpa only[Y] using ac⟩;rcases tv.1 he with he | he;simp at he;subst he;rcases hm with⟨U,_⟩ | hm;cases U;obtain⟨f,rfl⟩:=hm;exact⟨f,V⟩;exact Z e he
 | halt h=>intro Q X ag;exact⟨#[],λw=>by simp[Sem.events_halt],by simp,.inr ⟨h,ag,λw=>rfl⟩⟩
def Xf(P:Program)(main:Bool)(g:Goroutine)(s:St)(K:Gs_):Prop:=
 g.status=.running/\(∀w,Fits s w->
  ∃g' s' w' es,stepG P main g w=.go g' w' es/\K g' s'/\Fits s' w'/\Fr s w s' w'/\(∀e∈es,Ev s w w' e))/\
  (s=.quiet->∃g',(∀w,stepG P main g w=.go g' w #[])/\K g' .quiet)
structure Cx (s s₀:St):Prop where
 ext:∀b o,s.E b=some o->s₀.E b=some o
 own:∀b o,s₀.H b=some o->s.H b=some o
 Fy:∀b o,s₀.E b=some o->s.E b=some o∨(s.H b=some o/\s₀.H b=none)
 q:s₀.q=s.q
theorem Cx.refl(s:St):Cx s s:=⟨λ_ _ h=>h,λ_ _ h=>h,λ_ _ h=>.inl h,V⟩
variable{s₀:St}
theorem Cx.fits{s:St}(g:Cx s s₀)(f:Fits s w):Fits s₀ w where
 e b o h:=by
  rcases g.Fy b o h with x | x;exact f.e _ _ x;exact f.h _ _ x.1
 h b o h:=f.h _ _ (g.own _ _ h)
 d b h:=by
  cases K:s₀.E b with
  | none=>exact absurd K h
  | some o=>
   rcases g.Fy b o K with x | x
   .cases O:s₀.H b with
    | none=>rfl
    | some y=>have:=g.own _ _ O;rw[f.d b (by rw[x];simp)] at this;cases this
   .exact x.2
theorem I7{x:Option α}(h:x≠none):∃a,x=some a:=by cases x<;>simp at h;exact⟨_,rfl⟩
theorem Cx.fr{s s':St}(g:Cx s s₀)(f:Fr s₀ w s' w'):Fr s w s' w' where
 size:=f.size
 keep b hb O:=f.keep b hb (by
  cases h:s₀.H b with
  | none=>rfl
  | some o=>rw[g.own _ _ h] at O;cases O)
 own b hb:=(f.own b hb).imp (λh=>by let⟨o,K⟩:=I7 h;rw[g.own _ _ K];simp) id
 ext b o h:=f.ext _ _ (g.ext _ _ h)
 Fy b hb:=by
  rcases f.Fy b hb with h | h | h;let⟨o,K⟩:=I7 h;rcases g.Fy _ _ K with x | x;exact .inl (by rw[x];simp);exact .inr (.inl (by rw[x.1];simp));let⟨o,K⟩:=I7 h;exact .inr (.inl (by rw[g.own _ _ K];simp));exact .inr (.inr h)
 tape:=f.tape
 os:=f.os
 output:=f.output
theorem Cx.HA{s:St}{b:Nat}(g:Cx s s₀)(t:HA s₀ w w' b wr):HA s w w' b wr:=by
 refine⟨t.1,?_⟩;rcases t.2 with h | h | ⟨h,hw⟩;let⟨o,K⟩:=I7 h;exact .inl (by rw[g.own _ _ K];simp);exact .inr (.inl h);let⟨o,K⟩:=I7 h;rcases g.Fy _ _ K with x | x;exact .inr (.inr ⟨by rw[x];simp,hw⟩);exact .inl (by rw[x.1];simp)
theorem Cx.ev{s:St}{e:Event}(g:Cx s s₀)(t:Ev s₀ w w' e):Ev s w w' e:=by
 unfold Ev at t ⊢;split<;>rename_i he<;>simp only[he] at t;exact⟨t.1,g.HA t.2⟩;exact⟨t.1,g.HA t.2⟩;trivial;trivial
theorem Cx.quiet(g:Cx .quiet s₀):s₀=.quiet:=by
 obtain⟨E,H,q⟩:=s₀;have K:E=λ_=>none:=by
  funext b;cases h:E b with
  | none=>rfl
  | some o=>rcases g.Fy b o h with x | ⟨x,_⟩<;>cases x
 have O:H=λ_=>none:=by
  funext b;cases h:H b with
  | none=>rfl
  | some o=>cases g.own b o h
 have U:q=true:=g.q;subst K O U;rfl
inductive Rk:Type where
 | leaf:Rk
 | node (f:World->Rk):Rk
def Rk.sub(a b:Rk):Prop:=∃f w,b=.node f/\a=f w
theorem Rk.wf:WellFounded Rk.sub:=⟨λr=>by
 induction r with
 | leaf=>exact⟨_,λa ⟨f,w,h,_⟩=>by cases h⟩
 | node f K=>exact⟨_,λa ⟨g,w,h,e⟩=>by cases h;subst e;exact K w⟩⟩
def Jr(P:Program)(main:Bool)(Q:Gs_):Rk->Gs_
 | .leaf,g,s=>Q g s
 | .node f,g,s=>Q g s∨(g.status=.running/\∀w,Fits s w->
  ∃g' s' w' es,stepG P main g w=.go g' w' es/\Jr P main Q (f w) g' s'/\Fits s' w'/\Fr s w s' w'/\(∀e∈es,Ev s w w' e)/\(s=.quiet->s'=.quiet/\w'=w/\es=#[]))
structure Judge (P:Program) where
 main:Bool
 ok:(Gs_)->Gs_
 stop:∀{Q g s},Q g s->ok Q g s
 step:∀{Q g s},Xf P main g s (ok Q)->ok Q g s
 trans:∀{Q R g s},ok Q g s->(∀g' s',Q g' s'->ok R g' s')->ok R g s
 ghost:∀{Q g s s₀},Cx s s₀->ok Q g s₀->ok Q g s
def JQ(Q:Gs_)(g:Goroutine)(s:St):Prop:=∃s₀,Cx s s₀/\Q g s₀
theorem Cx.trans{a b c:St}(h:Cx a b)(k:Cx b c):Cx a c where
 ext x o y:=k.ext _ _ (h.ext _ _ y)
 own x o y:=h.own _ _ (k.own _ _ y)
 Fy x o y:=by
  rcases k.Fy x o y with z | z
  .rcases h.Fy x o z with u | u;exact .inl u
   .refine .inr ⟨u.1,?_⟩;cases K:c.H x with
    | none=>rfl
    | some v=>have:=k.own _ _ K;rw[u.2] at this;cases this
  .exact .inr ⟨h.own _ _ z.1,z.2⟩
 q:=k.q.trans h.q
def A9(P:Program)(main:Bool):Judge P where
 main:=main
 ok Q g s:=∃r,Jr P main (JQ Q) r g s
 stop h:=⟨.leaf,_,.refl _,h⟩
 step {Q g s} h:=by
  obtain⟨U,h,hu⟩:=h;have al:∀w,∃r:Rk,Fits s w->∃g' s' w' es,stepG P main g w=.go g' w' es/\Jr P main (JQ Q) r g' s'/\Fits s' w'/\Fr s w s' w'/\(∀e∈es,Ev s w w' e)/\(s=.quiet->s'=.quiet/\w'=w/\es=#[]):=by
   intro w;by_cases f:Fits s w
   .by_cases e:s=.quiet
    .let⟨g',K,r,O⟩:=hu e;exact⟨r,λ_=>⟨g',.quiet,w,#[],K w,O,e▸f,e▸ .refl _ _,by simp,λ_=>⟨V,V,V⟩⟩⟩
    .let⟨g',s',w',es,K,⟨r,O⟩,ac,am,ap⟩:=h w f;exact⟨r,λ_=>⟨g',s',w',es,K,O,ac,am,ap,λx=>absurd x e⟩⟩
   .exact⟨.leaf,λx=>absurd x f⟩
  exact⟨.node λw=>Classical.choose (al w),.inr ⟨U,λw f=>s6 (al w) f⟩⟩
 trans {Q R g s} h k:=by
  obtain⟨r,h⟩:=h;have av:∀(r:Rk) {g:Goroutine}{s s₀:St},Cx s s₀->Jr P main (JQ R) r g s₀->Jr P main (JQ R) r g s:=by
   intro r g s s₀ Y Z;cases r with
   | leaf=>obtain⟨ag,K,O⟩:=Z;exact⟨ag,Y.trans K,O⟩
   | node f=>
    rcases Z with⟨ag,K,O⟩ | ⟨U,Z⟩
    .exact .inl ⟨ag,Y.trans K,O⟩
    .exact .inr ⟨U,λw f=>let ⟨g',s',w',es,K,O,ac,am,ap,aq⟩:=Z w (Y.fits f);⟨g',s',w',es,K,O,ac,Y.fr am,λe he=>Y.ev (ap e he),λe=>aq (by subst e;exact Y.quiet)⟩⟩
  induction r generalizing g s with
  | leaf=>
   obtain⟨s₀,K,O⟩:=h;let⟨r,U⟩:=k _ _ O;exact⟨r,av r K U⟩
  | node f ay=>
   rcases h with⟨s₀,K,O⟩ | ⟨U,h⟩
   .let⟨r,U⟩:=k _ _ O;exact⟨r,av r K U⟩
   .have al:∀w,∃r:Rk,Fits s w->∃g' s' w' es,stepG P main g w=.go g' w' es/\Jr P main (JQ R) r g' s'/\Fits s' w'/\Fr s w s' w'/\(∀e∈es,Ev s w w' e)/\(s=.quiet->s'=.quiet/\w'=w/\es=#[]):=by
     intro w;by_cases aw:Fits s w
     .let⟨g',s',w',es,K,O,ac⟩:=h w aw;let⟨r,U⟩:=ay w O;exact⟨r,λ_=>⟨g',s',w',es,K,U,ac⟩⟩
     .exact⟨.leaf,λx=>absurd x aw⟩
    exact⟨.node λw=>Classical.choose (al w),.inr ⟨U,λw f=>s6 (al w) f⟩⟩
 ghost {Q g s s₀} Y h:=by
  obtain⟨r,Z⟩:=h;refine⟨r,?_⟩;cases r with
  | leaf=>obtain⟨ag,K,O⟩:=Z;exact⟨ag,Y.trans K,O⟩
  | node f=>
   rcases Z with⟨ag,K,O⟩ | ⟨U,Z⟩
   .exact .inl ⟨ag,Y.trans K,O⟩
   .exact .inr ⟨U,λw f=>let ⟨g',s',w',es,K,O,ac,am,ap,aq⟩:=Z w (Y.fits f);⟨g',s',w',es,K,O,ac,Y.fr am,λe he=>Y.ev (ap e he),λe=>aq (by subst e;exact Y.quiet)⟩⟩
def Lv(P:Program)(Q:Gs_):Nat->Goroutine->Prop
 | 0,g=>Q g .quiet
 | n+1,g=>Q g .quiet∨(g.status=.running/\∃g',(∀w,stepG P false g w=.go g' w #[])/\Lv P Q n g')
def Jf(P:Program):Judge P where
 main:=false
 ok Q g s:=s=.quiet->∃n,Lv P Q n g
 stop h e:=⟨0,by subst e;exact h⟩
 step {Q g s} h e:=by
  let⟨g',K,O⟩:=h.2.2 e;let⟨n,U⟩:=O V;exact⟨n+1,.inr ⟨h.1,g',K,U⟩⟩
 trans {Q R g s} h k e:=by
  let⟨n,U⟩:=h e;have:∀n g,Lv P Q n g->∃m,Lv P R m g:=by
   intro n
   induction n with
   | zero=>intro g h;exact k _ _ h rfl
   | succ n Y=>
    intro g h;rcases h with h | ⟨Z,g',K,O⟩
    .exact k _ _ h V
    .let⟨m,hm⟩:=Y g' O;exact⟨m+1,.inr ⟨Z,g',K,hm⟩⟩
  exact this n g U
 ghost {Q g s s₀} ac h e:=by subst e;exact h ac.quiet
def fr(b:Frame)(T:Av_)(ds:Ld_)(todo:Li_):Frame:={b with tmps:=T,todo:=todo,defers:=ds,mode:=.run}
def EZ(b:Frame)(T:Av_)(ds:Ld_)(todo:Li_):Frame:={b with tmps:=T,todo:=todo,defers:=ds,mode:=.returning}
def BK(T:Av_):Operand->Value
 | .tmp t=>T.getD t undef
 | .const v=>v
 | .global g=>.pointer (some ⟨g,0,none⟩)
 | .func f=>.func (.func f) #[] #[]
abbrev Env:=List (Nat×Value)
def look:Env->Nat->Option Value
 | [],_=>none
 | (t,v)::L,u=>if t=u then some v else look L u
def ev(L:Env):Operand->Option Value
 | .tmp t=>look L t
 | .const v=>some v
 | .global g=>some (.pointer (some ⟨g,0,none⟩))
 | .func f=>some (.func (.func f) #[] #[])
structure Has (n:Nat) (L:Env) (T:Av_):Prop where
 size:T.size=n
 at_:∀t v,look L t=some v->T.getD t undef=v
variable{T:Av_}
theorem Has.ev{n:Nat}{L:Env}(h:Has n L T){x:Operand}{v:Value}(e:ev L x=some v):BK T x=v:=by
 cases x with
 | tmp t=>exact h.at_ t v e
 | const u=>cases e;rfl
 | global g=>cases e;rfl
 | func f=>cases e;rfl
def C6(T:Av_):Option Tmp->Value->Av_
 | some d,v=>T.setIfInBounds d v
 | none,_=>T
def AA(L:Env):Option Tmp->Value->Env
 | some d,v=>(d,v)::L
 | none,_=>L
def Bz(n:Nat):Option Tmp->Bool
 | some d=>d<n
 | none=>true
theorem dt(T:Av_)(d:Nat)(v:Value)(h:d<T.size)(t:Nat):(T.setIfInBounds d v).getD t undef=if d=t then v else T.getD t undef:=by
 by_cases e:d=t;subst e;simp[j8,h];simp[j8,e]
theorem Has.put{n:Nat}{L:Env}(h:Has n L T){d:Option Tmp}(hd:Bz n d=true)(v:Value):Has n (AA L d v) (C6 T d v):=by
 cases d with
 | none=>exact h
 | some d=>
  have K:d<T.size:=by rw[h.size];simpa [Bz] using hd
  refine⟨by simp[C6,h.size],λt u hu=>?_⟩;simp only[C6,dt T d v K];simp only[AA,look] at hu;split at hu;rename_i e;rw[d6 e];exact f6 hu;rename_i e;rw[d0 e];exact h.at_ t u hu
def Sub:Env->Env->Prop
 | [],_=>True
 | (t,v)::L',L=>look L t=some v/\Sub L' L
theorem Sub.look{L:Env}:∀{L':Env},Sub L' L->∀t v,look L' t=some v->Pal.look L t=some v
 | [],_,t,v,e=>by simp[Pal.look] at e
 | (u,w)::L',h,t,v,e=>by
  simp only[Pal.look] at e
  split at e;rename_i K;subst K;cases e;exact h.1;exact Sub.look h.2 t v e
theorem Has.sub{n:Nat}{L L':Env}(h:Has n L T)(s:Sub L' L):Has n L' T:=⟨h.size,λt v e=>h.at_ t v (s.look t v e)⟩
variable {P:Program}
section
variable (J:Judge P)(Q:Gs_)
def JL(b:Frame)(n:Nat)(L:Env)(ds:Ld_)(todo:Li_)(cs:Lf_)(s:St):Prop:=
 ∀T,Has n L T->J.ok Q (G (fr b T ds todo) cs) s
end
variable {J:Judge P}{Q:Gs_}{L L':Env}{ds:Ld_}{k:Li_}{cs:Lf_}{s s':St}
variable{l:Nat}
section
variable {b:Frame}{n:Nat}
theorem Judge.DU{g g':Goroutine}(K:g.status=.running)(h:∀w,stepG P J.main g w=.go g' w)(k:J.ok Q g' s):J.ok Q g s:=
 J.step ⟨K,λw f=>⟨g',s,w,#[],h w,k,f,.refl _ _,by simp⟩,λe=>⟨g',h,e▸k⟩⟩
theorem EV(h:Sub L' L)(k':JL J Q b n L' ds k cs s):JL J Q b n L ds k cs s:=λT K=>k' T (K.sub h)
theorem JL.ghost(h:Cx s s')(k':JL J Q b n L ds k cs s'):JL J Q b n L ds k cs s:=λT K=>J.ghost h (k' T K)
theorem JL.skip(h:JL J Q b n L ds k cs s):JL J Q b n L ds (.code .skip::k) cs s:=λT K=>Judge.DU V (λw=>by simp[G,stepG,stepG.exec,fr]) (h T K)
theorem JL.label(h:JL J Q b n L ds k cs s):JL J Q b n L ds (.code (.label l)::k) cs s:=λT K=>Judge.DU V (λw=>by simp[G,stepG,stepG.exec,fr]) (h T K)
theorem O1{i:Nat}(h:JL J Q b n L ds k cs s):JL J Q b n L ds (.inBlock i::k) cs s:=λT K=>Judge.DU V (λw=>by simp[G,stepG,stepG.exec,fr]) (h T K)
theorem Zn{c:Code}(h:JL J Q b n L ds k cs s):JL J Q b n L ds (.inScope c::k) cs s:=λT K=>Judge.DU V (λw=>by simp[G,stepG,stepG.exec,fr]) (h T K)
theorem JL.seq{x y:Code}(h:JL J Q b n L ds (.code x:: .code y::k) cs s):JL J Q b n L ds (.code (.seq x y)::k) cs s:=λT K=>Judge.DU V (λw=>by simp[G,stepG,stepG.exec,fr]) (h T K)
theorem JL.block{i:Nat}{c:Code}(h:JL J Q b n L ds (.code c:: .inBlock i::k) cs s):JL J Q b n L ds (.code (.block i c)::k) cs s:=λT K=>Judge.DU V (λw=>by simp[G,stepG,stepG.exec,fr]) (h T K)
theorem JL.scope{c:Code}(h:JL J Q b n L ds (.code c:: .inScope c::k) cs s):JL J Q b n L ds (.code (.scope c)::k) cs s:=λT K=>Judge.DU V (λw=>by simp[G,stepG,stepG.exec,fr]) (h T K)
theorem Ja{c:Code}(h:JL J Q b n L ds (.code c:: .inLoop c::k) cs s):JL J Q b n L ds (.code (.loop c)::k) cs s:=λT K=>Judge.DU V (λw=>by simp[G,stepG,stepG.exec,fr]) (h T K)
theorem JL.again{c:Code}(h:JL J Q b n L ds (.code c:: .inLoop c::k) cs s):JL J Q b n L ds (.inLoop c::k) cs s:=λT K=>Judge.DU V (λw=>by simp[G,stepG,stepG.exec,fr]) (h T K)
theorem JL.exit{i:Nat}{k':Li_}(K:exitTo i k=some k')(h:JL J Q b n L ds k' cs s):JL J Q b n L ds (.code (.exit i)::k) cs s:=λT O=>Judge.DU V (λw=>by simp[G,stepG,stepG.exec,fr,K]) (h T O)
theorem WU(T:Av_)(todo:Li_)(x:Operand):(fr b T ds todo).eval x=BK T x:=by cases x<;>rfl
theorem VI(T:Av_)(todo:Li_):(fr b T ds todo).eval=BK T:=funext (WU T todo)
theorem JL.cond{c:Operand}{x y:Code}{t:Bool}(U:ev L c=some (.bool t))(h:JL J Q b n L ds (.code (if t then x else y)::k) cs s):JL J Q b n L ds (.code (.cond c x y)::k) cs s:=λT O=>
 Judge.DU V (λw=>by
  have K:=WU (b:=b) (ds:=ds) T (.code (.cond c x y)::k) c
  rw[O.ev U] at K
  simp only[fr] at K
  simp[G,stepG,stepG.exec,fr,K]) (h T O)
theorem aK{c:Operand}{x y:Code}(K:ev L c=some (.bool true))(h:JL J Q b n L ds (.code x::k) cs s):JL J Q b n L ds (.code (.cond c x y)::k) cs s:=JL.cond K h
theorem au{c:Operand}{x y:Code}(K:ev L c=some (.bool false))(h:JL J Q b n L ds (.code y::k) cs s):JL J Q b n L ds (.code (.cond c x y)::k) cs s:=JL.cond K h
theorem Sc{c:Operand}{x y:Code}{t:Bool}(K:ev L c=some (.bool t))(O:t=true->JL J Q b n L ds (.code x::k) cs s)(U:t=false->JL J Q b n L ds (.code y::k) cs s):JL J Q b n L ds (.code (.cond c x y)::k) cs s:=by
 cases t;exact JL.cond K (U V);exact JL.cond K (O V)
theorem GX{c:Operand}{x y:Code}{p:Prop} [Decidable p] (K:ev L c=some (.bool (decide p)))(O:p->JL J Q b n L ds (.code x::k) cs s)(U:¬p->JL J Q b n L ds (.code y::k) cs s):JL J Q b n L ds (.code (.cond c x y)::k) cs s:=
 Sc K (λh=>O (tf h)) (λh=>U (vu h))
theorem JL.loop{c:Code}(I:α->Prop)(O:α->Nat)(U:α->Env)(Y:α->St)(Z:α)(ac:I Z)(ag:L=U Z)(al:s=Y Z)
  (round:∀a,I a->(∀K,I K->O K<O a->JL J Q b n (U K) ds (.inLoop c::k) cs (Y K))->JL J Q b n (U a) ds (.code c:: .inLoop c::k) cs (Y a)):
  JL J Q b n L ds (.code (.loop c)::k) cs s:=by
 refine Ja ?_;subst ag al;have key:∀m a,O a=m->I a->JL J Q b n (U a) ds (.code c:: .inLoop c::k) cs (Y a):=by
  intro m
  induction m using Nat.strongRecOn with
  | _ m am=>intro a hm ap;exact round a ap λK aq av=>JL.again (am (O K) (hm▸av) K rfl aq)
 exact key _ Z V ac
theorem JL.region{id:Nat}{ops:Ao_}(h:JL J Q b n L ds (.inRegion ops (List.range ops.size)::k) cs s):JL J Q b n L ds (.code (.region id ops false)::k) cs s:=λT K=>Judge.DU V (λw=>by simp[G,stepG,stepG.exec,fr]) (h T K)
theorem JL.done{ops:Ao_}(h:JL J Q b n L ds k cs s):JL J Q b n L ds (.inRegion ops []::k) cs s:=λT K=>Judge.DU V (λw=>by simp[G,stepG,stepG.exec,fr]) (h T K)
theorem We{id:Nat}{ops:Ao_}(K:s.q=false)(hm:P.follows .mixedOrders=true)(h:∀t,JL J Q b n L ds (.inRegion ops (Region.linearise .any ops t)::k) cs s):JL J Q b n L ds (.code (.region id ops true)::k) cs s:=λT O=>by
 refine J.step ⟨rfl,λw f=>⟨_,s,{w with drawn:=w.drawn+1},#[],?_,h (w.tape w.drawn (.order b.fn id)) T O,⟨f.e,f.h,f.d⟩,⟨rJ _,λ_ _ _=>rfl,λ_ h=>.inl h,λ_ _ h=>h,λ_ h=>.inl h,rfl,rfl,rfl⟩,by simp⟩,λe=>by subst e;cases K⟩
 simp[G,stepG,stepG.exec,fr,choose,Sem.run,Question.forced,Question.cut,Region.schedule,hm]
theorem Hg(T:Av_)(ops:Ao_)(i:Nat)(rest:List Nat)(v:Value)(o:Oper)(K:ops[i]?=some o):
  (fr b T ds (.inRegion ops (i::rest)::k)).finish v=fr b (C6 T o.dst v) ds (.inRegion ops rest::k):=by
 cases hd:o.dst<;>simp[Frame.finish,fr,K,hd,C6]
theorem stepG_op{main:Bool}{ops:Ao_}{i:Nat}{rest:List Nat}{o:Oper}(K:ops[i]?=some o)(hw:Region.wanted o (yielded ops T)=true):
  stepG P main (G (fr b T ds (.inRegion ops (i::rest)::k)) cs) w=
   match b.roundOf,o.op with
   | some l,.defer c=>stepG.apply P true (fr b T ds (.inRegion ops (i::rest)::k)) cs none (do Instr.deferInRound l (← resolve (BK T) c o.type);pure .skip) w
   | _,_=>stepG.apply P true (fr b T ds (.inRegion ops (i::rest)::k)) cs none (execOp (BK T) o) w:=by
 have he:=VI (b:=b) (ds:=ds) T (.inRegion ops (i::rest)::k);simp only[fr] at he;simp only[G,stepG,stepG.exec,fr,K,sU,Option.getD_some,hw,sO,stepG.oper,Frame.oper?,he]
 rfl
theorem GI(T:Av_)(todo:Li_):(fr b T ds todo).fn=b.fn:=rfl
theorem Jh(T:Av_)(todo:Li_):(fr b T ds todo).todo=todo:=rfl
def upon(J:Judge P)(Q:Gs_)(b:Frame)(T:Av_)(ds:Ld_)(ops:Ao_)(i:Nat)(rest:List Nat)(k:Li_)(cs:Lf_)(dst:Option Tmp):Next->St->Prop
 | .value v,s=>J.ok Q (G (fr b (C6 T dst v) ds (.inRegion ops rest::k)) cs) s
 | .skip,s=>J.ok Q (G (fr b (C6 T dst undef) ds (.inRegion ops rest::k)) cs) s
 | .defer d,s=>J.ok Q (G (fr b (C6 T dst undef) (d::ds) (.inRegion ops rest::k)) cs) s
 | .enter f args,s=>J.ok Q (G (Frame.enter P f args .normal) (fr b T ds (.inRegion ops (i::rest)::k)::cs)) s
 | .round l f tmps assign body,s=>J.ok Q (G (Frame.round l f tmps assign body .normal) (fr b T ds (.inRegion ops (i::rest)::k)::cs)) s
 | _,_=>False
def M7(J:Judge P)(Q:Gs_)(b:Frame)(T:Av_)(ds:Ld_)(ops:Ao_)(i:Nat)(rest:List Nat)(k:Li_)(cs:Lf_):Halt->St->Prop
 | .panic v,s=>J.ok Q (G ((fr b T ds (.inRegion ops (i::rest)::k)).raise [{v,recovered:=false}]) cs) s
 | _,_=>False
theorem SN{s:St}{fn:FuncId}(h:∀e∈es,Ev s w w' e):∀e∈seen P fn es,Ev s w w' e:=λe he=>h e (mem_seen he)
theorem Judge.oper{ops:Ao_}{i:Nat}{rest:List Nat}{o:Oper}(al:ops[i]?=some o)(hw:Region.wanted o (yielded ops T)=true)(ay:b.kind≠ .early)
  (hd:b.roundOf=none∨∀c,o.op≠ .defer c)
  (h:lp P (execOp (BK T) o) s (upon J Q b T ds ops i rest k cs o.dst) (M7 J Q b T ds ops i rest k cs)):
  J.ok Q (G (fr b T ds (.inRegion ops (i::rest)::k)) cs) s:=by
 have U:((fr b T ds (.inRegion ops (i::rest)::k)).kind==CallKind.early)=false:=by simpa [fr] using ay
 have av:∀w,stepG P J.main (G (fr b T ds (.inRegion ops (i::rest)::k)) cs) w=stepG.apply P true (fr b T ds (.inRegion ops (i::rest)::k)) cs none (execOp (BK T) o) w:=by
  intro w;rw[stepG_op al hw];split;rename_i l c aw e2;rcases hd with hd | hd;rw[hd] at aw;cases aw;exact absurd e2 (hd c);rfl
 refine J.step ⟨V,λw f=>?_,λe=>?_⟩
 rotate_left
 .subst e;simp only[av];have am:=λv=>Hg (b:=b) (ds:=ds) (k:=k) T ops i rest v o al;let⟨es,he,Y,h⟩:=Vj _ h;have ag:seen P b.fn es=#[]:=Ud Y;rcases h with⟨ap,K,O⟩ | ⟨x,K,O⟩
  .cases ap with
   | value v=>exact⟨_,λw=>by simp[stepG.apply,O,U,GStep.after,G,am,GI,he,ag],K⟩
   | skip=>exact⟨_,λw=>by simp[stepG.apply,O,U,GStep.after,G,am,GI,he,ag],K⟩
   | enter g args=>exact⟨_,λw=>by simp[stepG.apply,O,U,GStep.after,G,GI,Jh,he,ag],K⟩
   | round l g tm as az=>exact⟨_,λw=>by simp[stepG.apply,O,U,GStep.after,G,GI,Jh,he,ag],K⟩
   | defer d=>
    have aq:=Hg (b:=b) (ds:=d::ds) (k:=k) T ops i rest undef o al;exact⟨_,λw=>by rw[← aq];simp[stepG.apply,O,U,GStep.after,G,GI,Jh,he,ag];rfl,K⟩
   | _=>exact K.elim
  .cases x with
   | panic v=>exact⟨_,λw=>by simp[stepG.apply,O,U,GStep.after,G,GI,Jh,he,ag],K⟩
   | _=>exact K.elim
 let⟨s',Z,ac,a0,K⟩:=Pk _ h f;rw[av];have Y:=SN (P:=P) (fn:=b.fn) a0;have am:=λv=>Hg (b:=b) (ds:=ds) (k:=k) T ops i rest v o al;cases O:(execOp (BK T) o).run P w with
 | ok ap w'=>
  rw[O] at Z ac K Y;simp only[Mp] at Z ac Y;cases ap with
  | value v=>exact⟨_,s',w',seen P b.fn ((execOp (BK T) o).events P w #[])++ #[],by simp[stepG.apply,O,U,GStep.after,G,am,GI],K,Z,ac,by simpa using Y⟩
  | skip=>exact⟨_,s',w',seen P b.fn ((execOp (BK T) o).events P w #[])++ #[],by simp[stepG.apply,O,U,GStep.after,G,am,GI],K,Z,ac,by simpa using Y⟩
  | enter g args=>exact⟨_,s',w',seen P b.fn ((execOp (BK T) o).events P w #[])++ #[],by simp[stepG.apply,O,U,GStep.after,G,GI,Jh],K,Z,ac,by simpa using Y⟩
  | round l g tm as az=>exact⟨_,s',w',seen P b.fn ((execOp (BK T) o).events P w #[])++ #[],by simp[stepG.apply,O,U,GStep.after,G,GI,Jh],K,Z,ac,by simpa using Y⟩
  | defer d=>
   have aq:=Hg (b:=b) (ds:=d::ds) (k:=k) T ops i rest undef o al;exact⟨_,s',w',seen P b.fn ((execOp (BK T) o).events P w #[])++ #[],by
    rw[← aq];simp[stepG.apply,O,U,GStep.after,G,GI,Jh];rfl,K,Z,ac,by simpa using Y⟩
  | _=>exact K.elim
 | halt x w'=>
  rw[O] at Z ac K Y;simp only[Mp] at Z ac Y;cases x with
  | panic v=>exact⟨_,s',w',seen P b.fn ((execOp (BK T) o).events P w #[])++ #[],by simp[stepG.apply,O,U,GStep.after,G,GI,Jh],K,Z,ac,by simpa using Y⟩
  | _=>exact K.elim
theorem Judge.unwanted{ops:Ao_}{i:Nat}{rest:List Nat}{o:Oper}(K:ops[i]?=some o)(hw:Region.wanted o (yielded ops T)=false)
  (h:J.ok Q (G (fr b (C6 T o.dst undef) ds (.inRegion ops rest::k)) cs) s):J.ok Q (G (fr b T ds (.inRegion ops (i::rest)::k)) cs) s:=by
 refine Judge.DU V (λw=>?_) h;have O:=Hg (b:=b) (ds:=ds) (k:=k) T ops i rest undef o K;rw[← O];simp[G,stepG,stepG.exec,fr,K,hw]
end
def Yl(P:Program)(o:Oper)(ρ:Operand->Value)(s:St)(v:Value):Prop:=lp P (execOp ρ o) s (λK s'=>K=.value v/\s'=s) (λ_ _=>False)
def Ft(L:Env)(ρ:Operand->Value):Prop:=∀x v,ev L x=some v->ρ x=v
def A2(L:Env)(ops:Ao_)(o:Oper):Option Bool:=
 match o.guard with
 | none=>some true
 | some (j,K)=>match(ops[j]?).bind (·.dst) with
  | some d=>match look L d with
   | some (.bool b)=>some (b==K)
   | some (.tuple _)=>some false
   | _=>none
  | none=>none
section
variable {b:Frame}{n:Nat}
theorem Has.GJ(h:Has n L T):Ft L (BK T):=λ_ _ e=>h.ev e
theorem getD_some{d:Nat}{c:Bool}(h:T.getD d undef=.bool c):T[d]?=some (.bool c):=by
 rw[j8] at h;cases K:T[d]? with
 | none=>rw[K] at h;simp[undef] at h
 | some v=>rw[K] at h;simp at h;rw[h]
theorem Cn{ops:Ao_}{o:Oper}{c:Bool}(h:Has n L T)(hw:A2 L ops o=some c):Region.wanted o (yielded ops T)=c:=by
 unfold A2 at hw;unfold Region.wanted;cases K:o.guard with
 | none=>rw[K] at hw;simpa using hw
 | some p=>
  obtain⟨j,Y⟩:=p;rw[K] at hw;simp only at hw ⊢;cases hd:(ops[j]?).bind (·.dst) with
  | none=>rw[hd] at hw;simp at hw
  | some d=>
   rw[hd] at hw;simp only at hw;cases O:look L d with
   | none=>rw[O] at hw;simp at hw
   | some v=>
    rw[O] at hw;cases v with
    | bool x=>
     simp only[sQ] at hw;have:=getD_some (h.at_ d _ O);simp only[yielded,hd,Option.bind_some,this];simp[← hw]
    | tuple c=>
     simp only[sQ] at hw;have K:=h.at_ d _ O;simp only[yielded,hd,Option.bind_some];cases U:T[d]? with
     | none=>simp[← hw]
     | some u=>
      have:u=.tuple c:=by rw[j8,U] at K;exact K
      subst this;simp[← hw]
    | _=>simp at hw
def EN:Op->Bool | .defer _=>true | _=>false
def BZ(b:Frame)(n:Nat)(o:Oper):Bool:=(b.kind != .early)&&(Bz n o.dst&& !EN o.op)
theorem Yl.out{P:Program}{o:Oper}{ρ:Operand->Value}{s:St}{v:Value}(h:Yl P o ρ s v):Pal.lp P (execOp ρ o) s (λK s'=>K=.value v/\s'=s) (λ_ _=>False):=by unfold Yl at h;exact h
theorem Bi{ops:Ao_}{i:Nat}{rest:List Nat}{o:Oper}{v:Value}(U:ops[i]?=some o)(hw:A2 L ops o=some true)(K:BZ b n o=true)
  (h:∀ρ,Ft L ρ->Yl P o ρ s v) (Y:JL J Q b n (AA L o.dst v) ds (.inRegion ops rest::k) cs s):
  JL J Q b n L ds (.inRegion ops (i::rest)::k) cs s:=λT O=>by
 simp only[BZ,f5] at K
 obtain⟨K,Z,hd⟩:=K
 refine Judge.oper U (Cn O hw) (by simpa using K) (.inr λc ac=>by rw[ac] at hd;simp[EN] at hd) (Es _ (h _ O.GJ).out ?_ ?_)
 .rintro al s' ⟨rfl,rfl⟩
  exact Y _ (O.put Z v)
 .intro _ _ ag;exact ag.elim
theorem Jo{ops:Ao_}{i:Nat}{rest:List Nat}{o:Oper}(O:ops[i]?=some o)(hw:A2 L ops o=some false)(U:Bz n o.dst=true)
  (Y:JL J Q b n (AA L o.dst undef) ds (.inRegion ops rest::k) cs s):
  JL J Q b n L ds (.inRegion ops (i::rest)::k) cs s:=λ_ K=>
 Judge.unwanted O (Cn K hw) (Y _ (K.put U undef))
theorem JL.op{ops:Ao_}{i:Nat}{rest:List Nat}{o:Oper}(ac:ops[i]?=some o)(hw:A2 L ops o=some true)(K:BZ b n o=true)
  (h:∀ρ,Ft L ρ->lp P (execOp ρ o) s (λU s'=>match U with
   | .value v=>JL J Q b n (AA L o.dst v) ds (.inRegion ops rest::k) cs s'
   | .skip=>JL J Q b n (AA L o.dst undef) ds (.inRegion ops rest::k) cs s'
   | _=>False) (λ_ _=>False)):
  JL J Q b n L ds (.inRegion ops (i::rest)::k) cs s:=λT O=>by
 simp only[BZ,f5] at K
 obtain⟨K,Z,hd⟩:=K
 refine Judge.oper ac (Cn O hw) (by simpa using K) (.inr λc ag=>by rw[ag] at hd;simp[EN] at hd) (Es _ (h _ O.GJ) ?_ ?_)
 .intro U s' Y
  cases U with
  | value v=>exact Y _ (O.put Z v)
  | skip=>exact Y _ (O.put Z undef)
  | _=>exact Y.elim
 .intro _ _ al;exact al.elim
end
variable {ρ:Operand->Value}{y z:Operand}{d:Option Tmp}{t u ty:TypeId}{p:String}{af:Ae_}{g:On_}{kd kd':IntKind}{m':Int}
variable{ats:Array TypeId}
section
variable {x:Operand}{v:Value}{m:Int}
theorem Yl.move(K:ρ x=v):Yl P ⟨d,.move x,ty,p,af,g⟩ ρ s v:=by simp[Yl,execOp,lp,pure,K]
theorem Yl.assign(K:ρ x=v):Yl P ⟨d,.assign x,ty,p,af,g⟩ ρ s v:=by simp[Yl,execOp,lp,pure,K]
theorem NK(K:ρ z=.bool true)(O:ρ x=v):Yl P ⟨d,.pick z x y,ty,p,af,g⟩ ρ s v:=by simp[Yl,execOp,lp,pure,bind,Sem.bind,asBool,K,O]
theorem aM(K:ρ z=.bool false)(O:ρ y=v):Yl P ⟨d,.pick z x y,ty,p,af,g⟩ ρ s v:=by simp[Yl,execOp,lp,pure,bind,Sem.bind,asBool,K,O]
theorem Yl.lss(K:ρ x=.int kd m)(O:ρ y=.int kd m'):Yl P ⟨d,.binOp .lss t x y u,ty,p,af,g⟩ ρ s (.bool (decide (m<m'))):=by
 simp[Yl,execOp,lp,pure,bind,Sem.bind,K,O,eqGuard,Go.binOp,Op.intCmp]
theorem Yl.leq(K:ρ x=.int kd m)(O:ρ y=.int kd m'):Yl P ⟨d,.binOp .leq t x y u,ty,p,af,g⟩ ρ s (.bool (decide (m<=m'))):=by
 simp[Yl,execOp,lp,pure,bind,Sem.bind,K,O,eqGuard,Go.binOp,Op.intCmp]
theorem Yl.gtr(K:ρ x=.int kd m)(O:ρ y=.int kd m'):Yl P ⟨d,.binOp .gtr t x y u,ty,p,af,g⟩ ρ s (.bool (decide (m'<m))):=by
 simp[Yl,execOp,lp,pure,bind,Sem.bind,K,O,eqGuard,Go.binOp,Op.intCmp]
theorem Yl.geq(K:ρ x=.int kd m)(O:ρ y=.int kd m'):Yl P ⟨d,.binOp .geq t x y u,ty,p,af,g⟩ ρ s (.bool (decide (m'<=m))):=by
 simp[Yl,execOp,lp,pure,bind,Sem.bind,K,O,eqGuard,Go.binOp,Op.intCmp]
theorem Yl.eql(K:ρ x=.int kd m)(O:ρ y=.int kd m'):Yl P ⟨d,.binOp .eql t x y u,ty,p,af,g⟩ ρ s (.bool (decide (m=m'))):=by
 simp[Yl,execOp,lp,pure,bind,Sem.bind,K,O,eqGuard,Go.binOp,Op.intCmp];rfl
theorem Yl.neq(K:ρ x=.int kd m)(O:ρ y=.int kd m'):Yl P ⟨d,.binOp .neq t x y u,ty,p,af,g⟩ ρ s (.bool (!decide (m=m'))):=by
 simp[Yl,execOp,lp,pure,bind,Sem.bind,K,O,eqGuard,Go.binOp,Op.intCmp];rfl
theorem Yl.add(K:ρ x=.int kd m)(O:ρ y=.int kd m'):Yl P ⟨d,.binOp .add t x y u,ty,p,af,g⟩ ρ s (.int kd (kd.wrap (m+m'))):=by
 simp[Yl,execOp,lp,pure,bind,Sem.bind,K,O,eqGuard,Go.binOp,Op.intArith]
theorem Yl.sub(K:ρ x=.int kd m)(O:ρ y=.int kd m'):Yl P ⟨d,.binOp .sub t x y u,ty,p,af,g⟩ ρ s (.int kd (kd.wrap (m - m'))):=by
 simp[Yl,execOp,lp,pure,bind,Sem.bind,K,O,eqGuard,Go.binOp,Op.intArith]
theorem Yl.mul(K:ρ x=.int kd m)(O:ρ y=.int kd m'):Yl P ⟨d,.binOp .mul t x y u,ty,p,af,g⟩ ρ s (.int kd (kd.wrap (m*m'))):=by
 simp[Yl,execOp,lp,pure,bind,Sem.bind,K,O,eqGuard,Go.binOp,Op.intArith]
theorem KZ{a:Int}(h: -9223372036854775808<=a/\a<=9223372036854775807):IntKind.i64.wrap a=a:=by
 simp only[IntKind.wrap,IntKind.bits,IntKind.signed];simp;split<;>omega
theorem gK(K:ρ x=.int .i64 m)(O:ρ y=.int .i64 m')(hb: -9223372036854775808<=m+m'/\m+m'<=9223372036854775807):Yl P ⟨d,.binOp .add t x y u,ty,p,af,g⟩ ρ s (.int .i64 (m+m')):=by
 have:=Yl.add (P:=P) (s:=s) (d:=d) (t:=t) (u:=u) (ty:=ty) (p:=p) (af:=af) (g:=g) K O;rwa[KZ hb] at this
theorem eI(K:ρ x=.int .i64 m)(O:ρ y=.int .i64 m')(hb: -9223372036854775808<=m - m'/\m - m'<=9223372036854775807):Yl P ⟨d,.binOp .sub t x y u,ty,p,af,g⟩ ρ s (.int .i64 (m - m')):=by
 have:=Yl.sub (P:=P) (s:=s) (d:=d) (t:=t) (u:=u) (ty:=ty) (p:=p) (af:=af) (g:=g) K O;rwa[KZ hb] at this
theorem gC(K:ρ x=.int .i64 m)(O:ρ y=.int .i64 m')(hb: -9223372036854775808<=m*m'/\m*m'<=9223372036854775807):Yl P ⟨d,.binOp .mul t x y u,ty,p,af,g⟩ ρ s (.int .i64 (m*m')):=by
 have:=Yl.mul (P:=P) (s:=s) (d:=d) (t:=t) (u:=u) (ty:=ty) (p:=p) (af:=af) (g:=g) K O;rwa[KZ hb] at this
theorem Yl.rem(K:ρ x=.int kd m)(O:ρ y=.int kd m')(U:m'≠0):Yl P ⟨d,.binOp .rem t x y u,ty,p,af,g⟩ ρ s (.int kd (m.tmod m')):=by
 simp[Yl,execOp,lp,pure,bind,Sem.bind,K,O,eqGuard,Go.binOp,Op.intDiv,U]
theorem Yl.quo(K:ρ x=.int kd m)(O:ρ y=.int kd m')(U:m'≠0):Yl P ⟨d,.binOp .quo t x y u,ty,p,af,g⟩ ρ s (.int kd (kd.wrap (m.tdiv m'))):=by
 simp[Yl,execOp,lp,pure,bind,Sem.bind,K,O,eqGuard,Go.binOp,Op.intDiv,U]
theorem Yl.and(K:ρ x=.int kd m)(O:ρ y=.int kd m'):Yl P ⟨d,.binOp .and t x y u,ty,p,af,g⟩ ρ s (.int kd (kd.wrap (BitVec.ofInt kd.bits m&&& BitVec.ofInt kd.bits m').toNat)):=by
 simp[Yl,execOp,lp,pure,bind,Sem.bind,K,O,eqGuard,Go.binOp,Op.intBits]
theorem Yl.or(K:ρ x=.int kd m)(O:ρ y=.int kd m'):Yl P ⟨d,.binOp .or t x y u,ty,p,af,g⟩ ρ s (.int kd (kd.wrap (BitVec.ofInt kd.bits m|||BitVec.ofInt kd.bits m').toNat)):=by
 simp[Yl,execOp,lp,pure,bind,Sem.bind,K,O,eqGuard,Go.binOp,Op.intBits]
theorem Yl.xor(K:ρ x=.int kd m)(O:ρ y=.int kd m'):Yl P ⟨d,.binOp .xor t x y u,ty,p,af,g⟩ ρ s (.int kd (kd.wrap (BitVec.ofInt kd.bits m ^^^ BitVec.ofInt kd.bits m').toNat)):=by
 simp[Yl,execOp,lp,pure,bind,Sem.bind,K,O,eqGuard,Go.binOp,Op.intBits]
theorem Yl.shl(K:ρ x=.int kd m)(O:ρ y=.int kd' m')(U:0<=m'):Yl P ⟨d,.binOp .shl t x y u,ty,p,af,g⟩ ρ s (.int kd (kd.wrap (m*2^(min m'.toNat kd.bits)))):=by
 have:¬m'<0:=by omega
 simp[Yl,execOp,lp,pure,bind,Sem.bind,K,O,eqGuard,Go.binOp,Op.shift,this]
theorem Yl.shr(K:ρ x=.int kd m)(O:ρ y=.int kd' m')(U:0<=m'):Yl P ⟨d,.binOp .shr t x y u,ty,p,af,g⟩ ρ s (.int kd (m.fdiv (2^(min m'.toNat kd.bits)))):=by
 have:¬m'<0:=by omega
 simp[Yl,execOp,lp,pure,bind,Sem.bind,K,O,eqGuard,Go.binOp,Op.shift,this]
theorem Yl.not{c:Bool}(K:ρ x=.bool c):Yl P ⟨d,.unOp .not t x,ty,p,af,g⟩ ρ s (.bool (!c)):=by
 simp[Yl,execOp,lp,pure,bind,Sem.bind,K,Op.unary]
theorem eZ(K:ρ x=.int .i64 m)(hb: -9223372036854775808<= -m/\ -m<=9223372036854775807):Yl P ⟨d,.unOp .neg t x,ty,p,af,g⟩ ρ s (.int .i64 (-m)):=by
 simp[Yl,execOp,lp,pure,bind,Sem.bind,K,Op.unary,Op.intArith,KZ hb]
theorem FZ(K:P.underlying t=some (.int kd'))(hu:P.underlying u=some (.int kd))(O:ρ x=.int kd' m):Yl P ⟨d,.convert t u x,ty,p,af,g⟩ ρ s (.int kd (kd.wrap m)):=by
 simp[Yl,execOp,lp,pure,bind,Sem.bind,O,Go.convert,underlying,program,K,hu,Conv.intToInt]
theorem Yl.extract{vs:Av_}{i:Nat}(K:ρ x=.tuple vs)(hi:vs[i]?=some v):Yl P ⟨d,.extract x i,ty,p,af,g⟩ ρ s v:=by
 simp[Yl,execOp,lp,pure,bind,Sem.bind,K,Instr.extract,hi]
theorem Yl.nilCheck{a:Addr}(K:ρ x=.pointer (some a)):Yl P ⟨d,.nilCheck x,ty,p,af,g⟩ ρ s (.pointer (some a)):=by
 simp[Yl,execOp,lp,pure,K]
theorem Yl.len{a:Option Addr}{e:TypeId}{c:Nat}(K:ats[0]?=some t)(O:P.underlying t=some (.slice e))(U:ρ x=.slice a l c):
  Yl P ⟨d,.call ⟨.builtin .len,#[x],ats⟩,ty,p,af,g⟩ ρ s (.int .i64 l):=by
 simp[Yl,execOp,lp,pure,bind,Sem.bind,U,resolve,invoke,builtin,Builtin.len_,K,underlying,program,O,goInt]
theorem Kn{dsc:TypeDesc}(K:P.underlying t=some dsc)(O:∀ms,dsc≠ .interface ms)(U:ρ x=v):Yl P ⟨d,.makeInterface t x,ty,p,af,g⟩ ρ s (.iface t v):=by
 have:lp P (Instr.makeInterface t v) s (λr s'=>r=.iface t v/\s'=s) (λ_ _=>False):=by
  unfold Instr.makeInterface;simp only[lp,bind,Sem.bind,underlying,program,K];cases dsc<;>first | exact⟨rfl,rfl⟩ | exact absurd rfl (O _)
 simp only[Yl,execOp,U];exact Ay _ _ (Es _ this (λr s' ⟨Y,Z⟩=>⟨by rw[Y],Z⟩) (λ_ _ h=>h))
theorem MM{fn:Fn}{a c:Array Operand}{va K:Av_}(O:a.map ρ=va)(U:c.map ρ=K):Yl P ⟨d,.makeFunc fn a c,ty,p,af,g⟩ ρ s (.func fn va K):=by
 simp[Yl,execOp,lp,pure,bind,Sem.bind,Instr.makeFunc,O,U]
end
attribute [irreducible] Yl
def Le(E E':LH):Prop:=∀b o,E b=some o->E' b=some o
theorem Le.refl(E:LH):Le E E:=λ_ _ h=>h
theorem Le.trans{E E' E0:LH}(h:Le E E')(k:Le E' E0):Le E E0:=λb o x=>k b o (h b o x)
theorem AS{E:LH}:Le E E:=Le.refl E
theorem Le.Ad{a b c:LH}(h:Le a b)(k:Le b c):Le a c:=h.trans k
def By:List (Nat×Obj)->LH->LH
 | [],H=>H
 | (b,o)::B,H=>λx=>if x=b then some o else By B H x
def mk(E H:LH)(B:List (Nat×Obj)):St:=⟨E,By B H,false⟩
def Nd(E H:LH):List (Nat×Obj)->Prop
 | []=>True
 | (b,_)::B=>E b=none/\H b=none/\(∀p∈B,p.1≠b)/\Nd E H B
theorem UC{H:LH}{b:Nat}:∀{B:List (Nat×Obj)},H b=none->(∀p∈B,p.1≠b)->By B H b=none
 | [],h,_=>h
 | (c,o)::B,h,hb=>by
  have K:b≠c:=λe=>hb (c,o) (by simp) e.symm
  simp only[By,d0 K]
  exact UC h λp O=>hb p (f4 _ O)
theorem IA{H:LH}{b:Nat}:∀{B:List (Nat×Obj)},By B H b=none->H b=none/\∀p∈B,p.1≠b
 | [],h=>⟨h,by simp⟩
 | (c,o)::B,h=>by
  simp only[By] at h
  split at h;cases h;rename_i O;let⟨U,Y⟩:=IA h;refine⟨U,λp K=>?_⟩;rcases iC.1 K with rfl | K;exact λe=>O e.symm;exact Y p K
theorem Ub{H:LH}{x:Nat}{o:Obj}{r:Nat}:∀{B:List (Nat×Obj)},(∀p∈B,p.1≠r)->By (B++ [(r,o)]) H x=if x=r then some o else By B H x
 | [],_=>rfl
 | (c,u)::B,h=>by
  simp only[tl,By]
  by_cases e:x=c
  .subst e
   have:x≠r:=λe=>h (x,u) (by simp) e;simp[this]
  .simp only [d0 e];exact Ub λp K=>h p (f4 _ K)
theorem Nd.append{E H:LH}{r:Nat}{o:Obj}(O:E r=none)(U:H r=none):∀{B:List (Nat×Obj)},(∀p∈B,p.1≠r)->Nd E H B->Nd E H (B++ [(r,o)])
 | [],_,_=>⟨O,U,by simp,trivial⟩
 | (c,u)::B,h,Y=>by
  obtain⟨Z,ac,ag,al⟩:=Y
  refine⟨Z,ac,λp K=>?_,Nd.append O U (λp K=>h p (f4 _ K)) al⟩
  rcases kO.1 K with K | K;exact ag p K;simp at K;subst K;exact λe=>h (c,u) (by simp) e.symm
theorem Ks{E H:LH}{b:Nat}{o:Obj}:∀{B:List (Nat×Obj)}{i:Nat},Nd E H B->B[i]?=some (b,o)->By B H b=some o
 | [],_,_,h=>by simp at h
 | (c,u)::B,0,_,h=>by simp at h;obtain⟨rfl,rfl⟩:=h;simp[By]
 | (c,u)::B,i+1,K,h=>by
  simp at h
  have O:b≠c:=K.2.2.1 (b,o) (r7 h)
  simp only[By,d0 O]
  exact Ks K.2.2.2 h
theorem UY{E H:LH}{b:Nat}{o o':Obj}:∀{B:List (Nat×Obj)}{i:Nat},Nd E H B->B[i]?=some (b,o)->By (B.set i (b,o')) H=λx=>if x=b then some o' else By B H x
 | [],_,_,h=>by simp at h
 | (c,u)::B,0,_,h=>by
  simp at h;obtain⟨rfl,rfl⟩:=h
  funext x
  simp only[ul,By]
  split<;>rfl
 | (c,u)::B,i+1,K,h=>by
  simp at h
  have O:b≠c:=K.2.2.1 (b,o) (r7 h)
  funext x
  simp only[uI,By]
  rw[UY K.2.2.2 h]
  by_cases e:x=c;subst e;simp[sy O];simp[e]
variable{o':Obj}
theorem Nd.set{E H:LH}{b:Nat}:∀{B:List (Nat×Obj)}{i:Nat},Nd E H B->B[i]?=some (b,o)->Nd E H (B.set i (b,o'))
 | [],_,_,h=>by simp at h
 | (c,u)::B,0,K,h=>by simp at h;obtain⟨rfl,rfl⟩:=h;exact K
 | (c,u)::B,i+1,K,h=>by
  simp at h
  refine⟨K.1,K.2.1,λp O=>?_,K.2.2.2.set h⟩
  have hm:=tK O
  rcases hm with hm | rfl;exact K.2.2.1 p hm;exact K.2.2.1 (b,o) (r7 h)
theorem Nd.Wl{E H:LH}{b:Nat}{o:Obj}:∀{B:List (Nat×Obj)}{i:Nat},Nd E H B->B[i]?=some (b,o)->E b=none
 | [],_,_,h=>by simp at h
 | (c,u)::B,0,K,h=>by simp at h;obtain⟨rfl,rfl⟩:=h;exact K.1
 | (c,u)::B,i+1,K,h=>by simp at h;exact Nd.Wl K.2.2.2 h
theorem RE{E H:LH}{B:List (Nat×Obj)}{i b:Nat}(K:Nd E H B)(h:B[i]?=some (b,o)):(mk E H B).get b=some o:=by
 unfold St.get mk;simp only[K.Wl h,Ks K h]
theorem Zu{E H:LH}{B:List (Nat×Obj)}{b:Nat}(h:E b=some o):(mk E H B).get b=some o:=by
 unfold St.get mk;simp only[h]
variable{off:Nat}
theorem V4{E H:LH}{B:List (Nat×Obj)}{i b:Nat}{c:Av_}{e:TypeId}{f:Nat×Nat}{v:Value}(K:Nd E H B)(h:B[i]?=some (b,.cells c e f))(O:c[off]?=some v):(mk E H B).cell? ⟨b,off,none⟩=some v:=by
 unfold St.cell?;rw[RE K h];exact O
theorem aT{E H:LH}{B:List (Nat×Obj)}{b:Nat}{c:Av_}{e:TypeId}{f:Nat×Nat}{v:Value}(h:E b=some (.cells c e f))(K:c[off]?=some v):(mk E H B).cell? ⟨b,off,none⟩=some v:=by
 unfold St.cell?;rw[Zu h];exact K
variable {E H:LH}{B B':List (Nat×Obj)}
variable{bk r:Nat}{args:Av_}{X:Halt->St->Prop}{todo:Li_}{fn:Func}{vs:Lv_}
section
variable {b:Frame}{n:Nat}
theorem K1(O:(mk E H B).E r=none)(U:(mk E H B).H r=none)(o:Obj)(Y:Nd E H B):Nd E H (B++ [(r,o)])/\(mk E H B).upd r o=mk E H (B++ [(r,o)]):=by
 let⟨Z,K⟩:=IA U;refine⟨Nd.append O Z K Y,?_⟩;unfold St.upd mk;congr 1;funext x;exact(Ub K).symm
theorem kr{i:Nat}(K:Nd E H B)(h:B[i]?=some (bk,o)):(mk E H B).upd bk o'=mk E H (B.set i (bk,o')):=by
 unfold St.upd mk;congr 1;exact(UY K h).symm
theorem JL.drop(B':List (Nat×Obj))(h:∀p∈B',∃i:Nat,B[i]?=some p)(U:Nd E H B)(k':JL J Q b n L ds k cs (mk E H B')):JL J Q b n L ds k cs (mk E H B):=
 JL.ghost (s':=mk E H B') ⟨λ_ _ h=>h,λx o O=>by
  show By B H x=some o
  have key:∀{B':List (Nat×Obj)},(∀p∈B',∃i:Nat,B[i]?=some p)->By B' H x=some o->By B H x=some o:=by
   intro B'
   induction B' with
   | nil=>
    intro _ O
    have al:∀p∈B,p.1≠x:=by
     intro p K e
     have:∀{B:List (Nat×Obj)},Nd E H B->p∈B->H p.1=none:=by
      intro B U K
      induction B with
      | nil=>simp at K
      | cons q B Y=>
       rcases iC.1 K with rfl | K;exact U.2.1;exact Y U.2.2.2 K
     have ac:=this U K
     rw[e] at ac
     have ag:H x=some o:=O
     rw[ac] at ag;cases ag
    have:∀{B:List (Nat×Obj)},(∀p∈B,p.1≠x)->By B H x=H x:=by
     intro B Z
     induction B with
     | nil=>rfl
     | cons q B Y=>
      have am:x≠q.1:=λe=>Z q (by simp) e.symm
      obtain⟨c,u⟩:=q
      simp only[By,d0 am]
      exact Y λp K=>Z p (f4 _ K)
    rw[this al];exact O
   | cons q B' Y=>
    intro Z O
    obtain⟨c,u⟩:=q
    simp only[By] at O
    split at O
    .rename_i e;subst e;cases O
     obtain⟨i,hi⟩:=Z (x,o) (by simp)
     exact Ks U hi
    .exact Y (λp K=>Z p (f4 _ K)) O
  exact key h O,λ_ _ h=>.inl h,V⟩ k'
theorem NF{x:Nat}:∀{B:List (Nat×Obj)}{i bk:Nat}{o u:Obj},Nd E H B->B[i]?=some (bk,o)->By (B.eraseIdx i) H x=some u->x≠bk/\By B H x=some u
 | [],_,_,_,_,_,h,_=>by simp at h
 | (c,v)::B,0,bk,o,u,O,h,K=>by
  simp at h;obtain⟨rfl,rfl⟩:=h
  simp only[List.eraseIdx_cons_zero] at K
  have U:x≠c:=by
   intro e;subst e;rw[UC O.2.1 O.2.2.1] at K;cases K
  exact⟨U,by simp only[By,d0 U];exact K⟩
 | (c,v)::B,i+1,bk,o,u,O,h,K=>by
  simp at h;simp only[List.eraseIdx_cons_succ,By] at K ⊢;split at K;rename_i e;subst e;rw[d6 rfl];exact⟨λe=>O.2.2.1 (bk,o) (r7 h) e.symm,K⟩;rename_i e;rw[d0 e];exact NF O.2.2.2 h K
theorem JL.freeze(i:Nat)(K:Nd E H B)(h:B[i]?=some (bk,o))
  (k':∀E',Le E E'->E' bk=some o->Nd E' H (B.eraseIdx i)->JL J Q b n L ds k cs (mk E' H (B.eraseIdx i))):JL J Q b n L ds k cs (mk E H B):=by
 have ap:=r7 h;have aq:E bk=none/\H bk=none:=by
  have:∀{B:List (Nat×Obj)},Nd E H B->(bk,o)∈B->E bk=none/\H bk=none:=by
   intro B K O
   induction B with
   | nil=>simp at O
   | cons q B Y=>
    rcases iC.1 O with rfl | O;exact⟨K.1,K.2.1⟩;exact Y K.2.2.2 O
  exact this K ap
 let E':LH:=λx=>if x=bk then some o else E x
 have ag:E' bk=some o:=by simp[E']
 have hle:Le E E':=λx u U=>by
  have:x≠bk:=λe=>by subst e;rw[aq.1] at U;cases U
  simp[E',this,U]
 have av:Nd E' H (B.eraseIdx i):=by
  have:∀{B:List (Nat×Obj)}{i:Nat},Nd E H B->B[i]?=some (bk,o)->Nd E' H (B.eraseIdx i)/\∀p∈B.eraseIdx i,p.1≠bk:=by
   intro B
   induction B with
   | nil=>intro i _ h;simp at h
   | cons q B Y=>
    obtain⟨c,v⟩:=q;intro i K h;have up:∀{B:List (Nat×Obj)},Nd E H B->(∀p∈B,p.1≠bk)->Nd E' H B:=by
     intro B K al
     induction B with
     | nil=>trivial
     | cons q B aw=>exact⟨by simpa [E',al q (by simp)] using K.1,K.2.1,K.2.2.1,aw K.2.2.2 λp O=>al p (f4 _ O)⟩
    cases i with
    | zero=>
     simp at h;obtain⟨rfl,rfl⟩:=h;exact⟨up K.2.2.2 K.2.2.1,K.2.2.1⟩
    | succ i=>
     simp at h;let⟨Z,ac⟩:=Y K.2.2.2 h;have am:c≠bk:=λe=>K.2.2.1 (bk,o) (r7 h) e.symm;refine⟨⟨by simpa [E',am] using K.1,K.2.1,λp O=>K.2.2.1 p (ti O),Z⟩,λp O=>?_⟩;rcases iC.1 O with rfl | O;exact am;exact ac p O
  exact(this K h).1
 refine JL.ghost (s':=mk E' H (B.eraseIdx i)) ⟨λx u U=>hle x u U,λx u U=>(NF K h U).2,λx u U=>?_,V⟩ (k' E' hle ag av);by_cases e:x=bk
 .subst e;right;have:u=o:=by have:E' x=some u:=U;rw[ag] at this;exact(f6 this).symm
  subst this;refine⟨Ks K h,?_⟩;cases ay:(mk E' H (B.eraseIdx i)).H x with
  | none=>rfl
  | some y=>exact absurd rfl (NF K h ay).1
 .left;have Z:E' x=some u:=U;have ac:E' x=E x:=by simp[E',e]
  show E x=some u;rw[← ac];exact Z
def Fn(P:Program)(f:FuncId)(args:Av_)(s:St)(R:Value->St->Prop):Prop:=
 ∀(J:Judge P) (Q:Gs_) (c:Frame) (cs:Lf_),(∀v s',R v s'->J.ok Q (G (c.finish v) cs) s')->J.ok Q (G (Frame.enter P f args .normal) (c::cs)) s
def El(P:Program)(f:FuncId):Bool:=match P.funcs[f]? with | some fn=> !(fn.name== "runtime.NumGoroutine")&&fn.body.isSome | none=>false
def evs(L:Env):List Operand->Option (Lv_)
 | []=>some []
 | x::xs=>match ev L x,evs L xs with | some v,some vs=>some (v::vs) | _,_=>none
theorem GF{L:Env}{ρ:Operand->Value}(h:Ft L ρ):∀{xs:List Operand}{vs:Lv_},evs L xs=some vs->xs.map ρ=vs
 | [],vs,e=>by simp[evs] at e;subst e;rfl
 | x::xs,vs,e=>by
  simp only[evs] at e
  split at e
  .rename_i v ws K O
   cases e;rw[sN,h x v K,GF h O]
  .cases e
theorem Kl{f:FuncId}{s:St}{Q:Next->St->Prop}(K:El P f=true)(h:Q (.enter f args) s):lp P (callFunc f args) s Q X:=by
 unfold El at K;unfold callFunc;simp only[bind,Sem.bind,program,lp];cases O:P.funcs[f]? with
 | none=>rw[O] at K;cases K
 | some fn=>
  rw[O] at K;simp only[f5,ua] at K;have hb:fn.body.isNone=false:=by cases U:fn.body<;>simp_all
  simp only[K.1,hb,rY,sI];exact h
def BL(P:Program)(f:FuncId)(L:Env)(n:Nat)(s:St)(v:Value):Prop:=∃fn,P.funcs[f]?=some fn/\∀T,Has n L T->lp P (results fn T) s (λu s'=>u=v/\s'=s) (λ_ _=>False)
theorem Judge.leave{c:Frame}{s:St}{v:Value}(Y:b.kind=.normal)(Z:P.funcs[b.fn]?=some fn)(U:lp P (results fn T) s (λu s'=>u=v/\s'=s) (λ_ _=>False))
  (h:J.ok Q (G (c.finish v) cs) s):J.ok Q (G (EZ b T [] todo) (c::cs)) s:=by
 refine J.step ⟨V,λw f=>?_,λe=>?_⟩
 rotate_left
 .subst e;let⟨es,he,am,U⟩:=Vj _ U;have ap:seen P b.fn es=#[]:=Ud am;rcases U with⟨u,⟨rfl,_⟩,O⟩ | ⟨x,K,_⟩;exact⟨_,λw=>by simp[G,stepG,unwind,EZ,Z,O,doReturn,Y,GStep.after,he,ap],h⟩;exact K.elim
 let⟨s',ac,ag,al,K⟩:=Pk _ U f;cases O:(results fn T).run P w with
 | halt x w'=>rw[O] at K;exact K.elim
 | ok u w'=>
  rw[O] at ac ag al K;obtain⟨rfl,rfl⟩:=K;exact⟨_,s',w',seen P b.fn ((results fn T).events P w #[])++ #[],by simp[G,stepG,unwind,EZ,Z,O,doReturn,Y,GStep.after],h,ac,ag,by simp only[uJ];exact SN al⟩
theorem JL.ret{s:St}{c:Frame}{v:Value}(O:b.kind=.normal)(U:b.roundOf=none)(K:BL P b.fn L n s v)(h:J.ok Q (G (c.finish v) cs) s):JL J Q b n L [] (.code .ret::k) (c::cs) s:=λT Y=>by
 obtain⟨fn,Z,K⟩:=K
 refine Judge.DU (g':=G (EZ b T [] (.code .ret::k)) (c::cs)) rfl (λw=>by simp[G,stepG,stepG.exec,fr,EZ,U]) ?_
 exact Judge.leave O Z (K T Y) h
theorem JL.fin{s:St}{c:Frame}{v:Value}(O:b.kind=.normal)(U:b.roundOf=none)(K:BL P b.fn L n s v)(h:J.ok Q (G (c.finish v) cs) s):JL J Q b n L [] [] (c::cs) s:=λT Y=>by
 obtain⟨fn,Z,K⟩:=K
 refine Judge.DU (g':=G (EZ b T [] []) (c::cs)) rfl (λw=>by simp[G,stepG,stepG.exec,fr,EZ,U]) ?_
 exact Judge.leave O Z (K T Y) h
theorem BL.one{f:FuncId}{s:St}{t:Tmp}{v:Value}(K:P.funcs[f]?=some fn)(O:fn.results=#[.tmp t])(h:look L t=some v):BL P f L n s v:=
 ⟨fn,K,λT U=>by
  have e:results fn T=Sem.pure v:=by
   have:=U.at_ t v h
   simp only[results,O,tL]
   show Sem.pure (T.getD t undef)=_
   rw[this]
  rw[e];exact⟨rfl,rfl⟩⟩
theorem BL.none{f:FuncId}{s:St}(K:P.funcs[f]?=some fn)(O:fn.results=#[]):BL P f L n s (.tuple #[]):=
 ⟨fn,K,λT U=>by
  have e:results fn T=Sem.pure (.tuple #[]):=by
   simp only[results,O,tL]
   rfl
  rw[e];exact⟨rfl,rfl⟩⟩
def GY:Nat->Lv_->Env
 | _,[]=>[]
 | i,v::vs=>(i,v)::GY (i+1) vs
theorem KY{i t:Nat}{v:Value}(h:look (GY i vs) t=some v):i<=t/\vs[t - i]?=some v:=by
 induction vs generalizing i with
 | nil=>simp[GY,look] at h
 | cons u vs K=>
  simp only[GY,look] at h;split at h;rename_i e;subst e;cases h;simp
  .rename_i U;let⟨Y,O⟩:=K h;refine⟨by omega,?_⟩;have:t - i=(t - (i+1))+1:=by omega
   rw[this];simpa using O
end
def BB(P:Program)(t:TypeId):Option Nat:=(P.info? t).map (·.size)
def DY(P:Program)(t:TypeId):Option Bool:=match P.underlying t with | some (.struct _)=>some true | some (.array _ _)=>some true | some _=>some false | none=>none
def zeroOf(P:Program)(t:TypeId):Option Value:=(P.info? t).bind (·.zero)
variable{K:Nat}
theorem FC{Q:Nat->St->Prop}(h:BB P t=some K)(k:Q K s):lp P (Go.sizeOf t) s Q X:=by
 unfold BB at h;simp only[Go.sizeOf,typeInfo,bind,Sem.bind,program,lp];cases hi:P.info? t with
 | none=>rw[hi] at h;cases h
 | some i=>rw[hi] at h;simp at h;subst h;exact k
theorem IB{z:Value}{Q:Value->St->Prop}(h:zeroOf P t=some z)(k:Q z s):lp P (zeroValue t) s Q X:=by
 unfold zeroOf at h;simp only[zeroValue,typeInfo,bind,Sem.bind,program,lp];cases hi:P.info? t with
 | none=>rw[hi] at h;cases h
 | some i=>
  rw[hi] at h;simp at h;show lp P (match i.zero with | some v=>pure v | none=>unsupported _) s Q X
  rw[h];exact k
theorem Pe{c:Bool}{Q:Bool->St->Prop}(h:DY P t=some c)(k:Q c s):lp P (isAgg t) s Q X:=by
 unfold DY at h;simp only[isAgg,underlying,bind,Sem.bind,program,lp];cases hu:P.underlying t with
 | none=>rw[hu] at h;cases h
 | some u=>
  rw[hu] at h;cases u<;>simp at h<;>subst h<;>exact k
theorem Cy{u:TypeDesc}{Q:TypeDesc->St->Prop}(h:P.underlying t=some u)(k:Q u s):lp P (underlying t) s Q X:=by
 simp only[underlying,bind,Sem.bind,program,lp,h];exact k
theorem Wu{a:Addr}{v:Value}{Q:Value->St->Prop}(h:s.cell? a=some v)(k:Q v s):lp P (load a) s Q X:=⟨V,v,h,k⟩
theorem T3{a:Addr}{Q:Av_->St->Prop}{X:Halt->St->Prop}:∀(vs:Lv_) (i:Nat) (acc:Av_),(∀j v,vs[j]?=some v->s.cell? (a.add (i+j))=some v)->Q (acc++vs.toArray) s->lp P (loadCellsFrom a i vs.length acc) s Q X
 | [],i,acc,_,k=>by simpa [loadCellsFrom,lp,pure] using k
 | v::vs,i,acc,h,k=>by
  simp only[r4,loadCellsFrom]
  refine Ay _ _ (Wu (h 0 v V) ?_)
  refine T3 vs (i+1) (acc.push v) (λj u K=>?_) (by simpa using k)
  have:=h (j+1) u (by simpa using K)
  rwa[show i+1+j=i+(j+1) from by omega]
theorem T9{a:Addr}{m:Nat}{Q:Av_->St->Prop}(hm:m=vs.length)(h:∀j v,vs[j]?=some v->s.cell? (a.add j)=some v)(k:Q vs.toArray s):lp P (loadCells a m) s Q X:=by
 subst hm;exact T3 vs 0 #[] (λj v K=>by simpa using h j v K) (by simpa using k)
theorem Um{a:Addr}{v:Value}{Q:Value->St->Prop}(K:DY P t=some false)(h:s.cell? a=some v)(k:Q v s):lp P (loadVar t a) s Q X:=by
 unfold loadVar;refine Ay _ _ (Pe K ?_);exact Wu h k
theorem Uj{a:Addr}{Q:Value->St->Prop}(K:DY P t=some true)(O:BB P t=some vs.length)(h:∀j v,vs[j]?=some v->s.cell? (a.add j)=some v)(k:Q (.agg vs.toArray) s):lp P (loadVar t a) s Q X:=by
 unfold loadVar;refine Ay _ _ (Pe K ?_);show lp P (do let r ← loadCells a (← Go.sizeOf t);pure (Value.agg r)) s Q X
 refine Ay (x:=Go.sizeOf t) _ (FC O ?_);refine Ay _ _ (T9 V h ?_);exact k
variable {e:TypeId}
section
variable {x:Operand}{v:Value}{m:Int}
theorem FY{o:Oper}{sm:Sem Value}(K:execOp ρ o=(do pure (Next.value (← sm))))(h:lp P sm s (λr s'=>r=v/\s'=s) (λ_ _=>False)):Yl P o ρ s v:=by
 unfold Yl;rw[K];exact Ay _ _ (Es _ h (λr s' ⟨O,U⟩=>⟨by rw[O],U⟩) (λ_ _ h=>h))
theorem Yl.load{a:Addr}(K:DY P t=some false)(O:ρ x=.pointer (some a))(h:s.cell? a=some v):Yl P ⟨d,.load t x,ty,p,af,g⟩ ρ s v:=
 FY (sm:=Instr.loadAt t (ρ x)) V (by rw[O];exact Um K h ⟨rfl,rfl⟩)
theorem Jc{a:Addr}(K:DY P t=some true)(O:BB P t=some vs.length)(U:ρ x=.pointer (some a))(h:∀j v,vs[j]?=some v->s.cell? (a.add j)=some v):Yl P ⟨d,.load t x,ty,p,af,g⟩ ρ s (.agg vs.toArray):=
 FY (sm:=Instr.loadAt t (ρ x)) V (by rw[U];exact Uj K O h ⟨rfl,rfl⟩)
theorem Yl.fieldAddr{a:Addr}{O:Array Field}{i:Nat}{K:Field}{id:Nat}(Y:P.underlying t=some (.struct O))(hi:O[i]?=some K)(Z:BB P K.type=some (id+1))(ac:ρ x=.pointer (some a)):
  Yl P ⟨d,.fieldAddr t x i,ty,p,af,g⟩ ρ s (.pointer (some (a.add K.offset))):=
 FY (sm:=Instr.fieldAt t (ρ x) i) V (by
  rw[ac];unfold Instr.fieldAt
  refine Ay _ _ (Cy Y ?_)
  simp only[hi,Instr.sureAddr,bind,Sem.bind,pure]
  refine Ay (x:=fieldPlace a K) _ ?_
  unfold fieldPlace
  refine Ay _ _ (FC Z ?_)
  simp only[Nat.add_eq_zero_iff,Nat.succ_ne_self,and_false,sI,lp,pure]
  exact⟨trivial,trivial⟩)
theorem NI{a:Addr}{c:Nat}(O:P.underlying t=some (.slice e))(U:BB P e=some K)(Y:ρ x=.slice (some a) l c)(Z:ρ y=.int kd m)(h:0<=m/\m<l):
  Yl P ⟨d,.indexAddr t x y,ty,p,af,g⟩ ρ s (.pointer (some (a.add (m.toNat*K)))):=
 FY (sm:=Instr.indexAt t (ρ x) (ρ y)) V (by
  rw[Y,Z];unfold Instr.indexAt
  simp only[asIntOf,bind,Sem.bind,pure]
  refine Ay (x:=underlying t) _ (Cy O ?_)
  simp only[Sem.bind]
  refine Ay (x:=underlying t) _ (Cy O ?_)
  simp only[Sem.bind,h,wd,sO]
  refine Ay (x:=Go.sizeOf e) _ (FC U ?_)
  exact⟨rfl,rfl⟩)
theorem Vd{a:Addr}(O:P.underlying t=some (.array l e))(U:BB P e=some K)(Y:ρ x=.pointer (some a))(Z:ρ y=.int kd m)(h:0<=m/\m<l):
  Yl P ⟨d,.indexAddr t x y,ty,p,af,g⟩ ρ s (.pointer (some (a.add (m.toNat*K)))):=
 FY (sm:=Instr.indexAt t (ρ x) (ρ y)) V (by
  rw[Y,Z];unfold Instr.indexAt
  simp only[asIntOf,bind,Sem.bind,pure]
  refine Ay (x:=underlying t) _ (Cy O ?_)
  simp only[Sem.bind,Instr.sureAddr,pure]
  refine Ay (x:=underlying t) _ (Cy O ?_)
  simp only[Sem.bind,h,wd,sO]
  refine Ay (x:=Go.sizeOf e) _ (FC U ?_)
  exact⟨rfl,rfl⟩)
end
variable {ops:Ao_}{rest:List Nat}
variable{pl:Nat}
section
variable {b:Frame}{n:Nat}
variable {i:Nat}{x:Operand}{v:Value}
theorem Kp{cells:Av_}{Q:Addr->St->Prop}(K:Nd E H B)(k:∀r,Nd E H (B++ [(r,.cells cells e (0,0))])->Q ⟨r,0,none⟩ (mk E H (B++ [(r,.cells cells e (0,0))]))):lp P (newRow e cells) (mk E H B) Q X:=by
 simp only[newRow,newObj,bind,Sem.bind,lp,pure];refine⟨V,λr O U=>?_⟩;let⟨Y,Z⟩:=K1 O U (.cells cells e (0,0)) K;rw[Z];exact k r Y
theorem JL.alloc{z:Value}(K:ops[i]?=some ⟨d,.alloc e,ty,p,af,g⟩)(hw:A2 L ops ⟨d,.alloc e,ty,p,af,g⟩=some true)(O:BZ b n ⟨d,.alloc e,ty,p,af,g⟩=true)(U:Nd E H B)(Y:zeroOf P e=some z)
  (h:∀r,Nd E H (B++ [(r,.cells z.cells e (0,0))])->JL J Q b n (AA L d (.pointer (some ⟨r,0,none⟩))) ds (.inRegion ops rest::k) cs (mk E H (B++ [(r,.cells z.cells e (0,0))]))):
  JL J Q b n L ds (.inRegion ops (i::rest)::k) cs (mk E H B):=
 JL.op K hw O λρ _=>by
  show lp P (do pure (Next.value (← Instr.alloc e true (.tuple #[])))) _ _ _
  refine Ay _ _ ?_
  unfold Instr.alloc
  refine Ay _ _ (IB Y ?_)
  refine Ay _ _ (Kp U λr Z=>?_)
  exact h r Z
theorem JL.box(K:ops[i]?=some ⟨d,.box e x,ty,p,af,g⟩)(hw:A2 L ops ⟨d,.box e x,ty,p,af,g⟩=some true)(O:BZ b n ⟨d,.box e x,ty,p,af,g⟩=true)(U:Nd E H B)(Y:ev L x=some v)
  (h:∀r,Nd E H (B++ [(r,.cells v.cells e (0,0))])->JL J Q b n (AA L d (.pointer (some ⟨r,0,none⟩))) ds (.inRegion ops rest::k) cs (mk E H (B++ [(r,.cells v.cells e (0,0))]))):
  JL J Q b n L ds (.inRegion ops (i::rest)::k) cs (mk E H B):=
 JL.op K hw O λρ Z=>by
  show lp P (do pure (Next.value (← Instr.box e (ρ x)))) _ _ _
  rw[Z x v Y]
  refine Ay _ _ ?_
  unfold Instr.box
  refine Ay _ _ (Kp U λr ac=>?_)
  exact h r ac
def Bc(c:Av_)(off:Nat):Lv_->Av_
 | []=>c
 | v::vs=>Bc (c.setIfInBounds off v) (off+1) vs
theorem NH(c:Av_)(off:Nat)(vs:Lv_):(Bc c off vs).size=c.size:=by
 induction vs generalizing c off with
 | nil=>rfl
 | cons v vs K=>simp[Bc,K]
theorem OZ{bk:Nat}{Q:Unit->St->Prop}{X:Halt->St->Prop}{pl off:Nat}{sp:Option Nat}:∀(vs:Lv_) (j:Nat) (c:Av_) (B:List (Nat×Obj)),(∀v∈vs,C5 v=true)->Nd E H B->B[pl]?=some (bk,.cells c e (0,0))->off+j+vs.length<=c.size->(sp=none∨0<j)->
  (∀B',B'=B.set pl (bk,.cells (Bc c (off+j) vs) e (0,0))->Nd E H B'->Q () (mk E H B'))->lp P (storeCells ⟨bk,off,sp⟩ vs j) (mk E H B) Q X
 | [],j,c,B,_,O,K,_,_,k=>by
  simp only[storeCells,lp,pure]
  refine k B ?_ O
  simp only[Bc]
  exact(s9 λi=>by
   by_cases hi:pl=i
   .subst hi
    let⟨Z,ac⟩:=d7.1 K
    simp[Z,ac]
   .simp [hi])
 | v::vs,j,c,B,U,O,K,hle,Y,k=>by
  simp only[storeCells,r4] at*
  have ag:off+j<c.size:=by omega
  have al:(Addr.add ⟨bk,off,sp⟩ j)=⟨bk,off+j,none⟩:=by
   unfold Addr.add;split
   .rename_i am;subst am;rcases Y with rfl | Y
    .rfl
    .omega
   .rfl
  have ap:(cellAt (.cells c e (0,0)) ⟨bk,off+j,none⟩).isSome=true:=by simp[cellAt,ag]
  refine Ay (x:=store (Addr.add ⟨bk,off,sp⟩ j) v) _ ?_;rw[al];refine⟨V,U v (by simp),_,Ks O K,ap,by simp[frozenAt],?_⟩;simp only[lp];have aq:Mg (.cells c e (0,0)) ⟨bk,off+j,none⟩ v=.cells (c.setIfInBounds (off+j) v) e (0,0):=by simp[Mg]
  rw[aq,kr O K];have av:(B.set pl (bk,.cells (c.setIfInBounds (off+j) v) e (0,0)))[pl]?=some (bk,.cells (c.setIfInBounds (off+j) v) e (0,0)):=by
   have:pl<B.length:=(d7.1 K).1;simp[this]
  refine OZ vs (j+1) _ _ (λu hu=>U u (f4 _ hu)) (O.set K) av (by simp;omega) (.inr (by omega)) λaw e2 ay=>k aw ?_ ay;rw[e2,wa];simp only[Bc]
  rfl
theorem RA{c:Av_}{Q:Unit->St->Prop}(K:BB P t=some v.cells.size)(O:∀u∈v.cells.toList,C5 u=true)(U:Nd E H B)(Y:B[pl]?=some (bk,.cells c e (0,0)))(hle:off+v.cells.size<=c.size)
  (k:Nd E H (B.set pl (bk,.cells (Bc c off v.cells.toList) e (0,0)))->Q () (mk E H (B.set pl (bk,.cells (Bc c off v.cells.toList) e (0,0))))):lp P (storeVar t ⟨bk,off,none⟩ v) (mk E H B) Q X:=by
 unfold storeVar;refine Ay _ _ (FC K ?_);simp only[ne_eq,not_true_eq_false,sI];refine OZ v.cells.toList 0 c B O U Y (by simpa using hle) (.inl V) λB' e Z=>?_;subst e;exact k Z
theorem JL.store{c:Av_}(pl:Nat)(O:ops[i]?=some ⟨d,.store t x y,ty,p,af,g⟩)(hw:A2 L ops ⟨d,.store t x y,ty,p,af,g⟩=some true)(U:BZ b n ⟨d,.store t x y,ty,p,af,g⟩=true)(Y:Nd E H B)
  (Z:ev L x=some (.pointer (some ⟨bk,off,none⟩))) (ac:ev L y=some v) (ag:BB P t=some v.cells.size) (al:∀u∈v.cells.toList,C5 u=true) (am:B[pl]?=some (bk,.cells c e (0,0))) (hle:off+v.cells.size<=c.size)
  (h:Nd E H (B.set pl (bk,.cells (Bc c off v.cells.toList) e (0,0)))->JL J Q b n (AA L d undef) ds (.inRegion ops rest::k) cs (mk E H (B.set pl (bk,.cells (Bc c off v.cells.toList) e (0,0))))):
  JL J Q b n L ds (.inRegion ops (i::rest)::k) cs (mk E H B):=
 JL.op O hw U λρ K=>by
  show lp P (do Instr.storeAt t (ρ x) (ρ y);pure Next.skip) _ _ _
  rw[K x _ Z,K y _ ac]
  refine Ay _ _ ?_
  unfold Instr.storeAt
  simp only[Instr.sureAddr,bind,Sem.bind,pure]
  exact RA ag al Y am hle λap=>h ap
end
def Gs(P:Program)(t:TypeId):Option Nat:=(P.info? t).map (·.bytes)
variable{cx hi lo mx:Nat}{Y:Option Value}{xs ys:Lv_}{ax:Option Addr}
section
variable {b:Frame}{n:Nat}
variable {i:Nat}{x:Operand}{v:Value}
theorem LF{inf:TypeInfo}{Q:TypeInfo->St->Prop}(h:P.info? t=some inf)(k:Q inf s):lp P (typeInfo t) s Q X:=by
 simp only[typeInfo,bind,Sem.bind,program,lp,h];exact k
theorem RY(h:Gs P t=some K):∃inf,P.info? t=some inf/\inf.bytes=K:=by
 unfold Gs at h;cases hi:P.info? t with
 | none=>rw[hi] at h;cases h
 | some i=>rw[hi] at h;simp at h;exact⟨i,rfl,h⟩
theorem Kt{z y:Nat}{code:BoundsCode}{f:Nat->Sem β}{K:β->St->Prop}(Y:z<=y)(O:lp P (f z) s K X):lp P (Instr.sliceBound (.int .i64 z) y code>>=f) s K X:=by
 refine Ay _ _ ?_;unfold Instr.sliceBound;have U:(0:Int)<=(z:Int)/\(z:Int)<=(y:Int):=⟨by omega,by omega⟩;simp only[asIntOf,bind,Sem.bind,pure];rw[d6 U];simpa [lp] using O
theorem I6(a:α)(f:α->Sem β):((pure a:Sem α)>>=f)=f a:=rfl
theorem lS{c:Nat}:lp P (Instr.sliceBounds true l c none none none) s (λr s'=>r=(0,l,c)/\s'=s) X:=by
 unfold Instr.sliceBounds;exact⟨V,V⟩
theorem lL{c:Nat}(K:lo<=l):lp P (Instr.sliceBounds true l c (some (.int .i64 lo)) none none) s (λr s'=>r=(lo,l,c)/\s'=s) X:=by
 simp only[Instr.sliceBounds,sO,um,uK,rY,sI,I6];exact Kt K ⟨V,V⟩
theorem lQ{c:Nat}(hh:hi<=c):lp P (Instr.sliceBounds true l c none (some (.int .i64 hi)) none) s (λr s'=>r=(0,hi,c)/\s'=s) X:=by
 simp only[Instr.sliceBounds,sO,um,uK,rY,sI,I6];exact Kt hh ⟨V,V⟩
theorem lb{c:Nat}(hh:hi<=c)(K:lo<=hi):lp P (Instr.sliceBounds true l c (some (.int .i64 lo)) (some (.int .i64 hi)) none) s (λr s'=>r=(lo,hi,c)/\s'=s) X:=by
 have e:Instr.sliceBounds true l c (some (.int .i64 lo)) (some (.int .i64 hi)) none=(Instr.sliceBound (.int .i64 hi) c .sliceAcap>>=λh=>Instr.sliceBound (.int .i64 lo) h .sliceB>>=λl=>pure (l,h,c)):=by
  simp[Instr.sliceBounds]
 rw[e];exact Kt hh (Kt K ⟨V,V⟩)
theorem lG{c:Nat}(hm:mx<=c)(hh:hi<=mx):lp P (Instr.sliceBounds true l c none (some (.int .i64 hi)) (some (.int .i64 mx))) s (λr s'=>r=(0,hi,mx)/\s'=s) X:=by
 simp only[Instr.sliceBounds,sO,um,uK,rY,sI,I6];exact Kt hm (Kt hh ⟨V,V⟩)
theorem kY{c:Nat}(hm:mx<=c)(hh:hi<=mx)(K:lo<=hi):lp P (Instr.sliceBounds true l c (some (.int .i64 lo)) (some (.int .i64 hi)) (some (.int .i64 mx))) s (λr s'=>r=(lo,hi,mx)/\s'=s) X:=by
 simp only[Instr.sliceBounds,sO,um,uK,rY,sI,I6];exact Kt hm (Kt hh (Kt K ⟨V,V⟩))
theorem aP{c:Nat}{Z ac:Option Value}
  (O:match ac with | some w=>w=.int .i64 mx | none=>mx=c) (K:match Z with | some w=>w=.int .i64 hi | none=>hi=l/\ac=none) (U:match Y with | some w=>w=.int .i64 lo | none=>lo=0) (hm:mx<=c) (hh:hi<=mx) (ag:lo<=hi):
  lp P (Instr.sliceBounds true l c Y Z ac) s (λr s'=>r=(lo,hi,mx)/\s'=s) X:=by
 cases ac with
 | none=>
  cases Z with
  | none=>
   cases Y with
   | none=>obtain rfl:mx=c:=O;obtain rfl:hi=l:=K.1;obtain rfl:lo=0:=U;exact lS
   | some w=>obtain rfl:mx=c:=O;obtain rfl:hi=l:=K.1;obtain rfl:w=.int .i64 lo:=U;exact lL ag
  | some w=>
   cases Y with
   | none=>obtain rfl:mx=c:=O;obtain rfl:w=.int .i64 hi:=K;obtain rfl:lo=0:=U;exact lQ hh
   | some w'=>obtain rfl:mx=c:=O;obtain rfl:w=.int .i64 hi:=K;obtain rfl:w'=.int .i64 lo:=U;exact lb hh ag
 | some w0=>
  cases Z with
  | none=>exact absurd K.2 (λh=>by cases h)
  | some w=>
   cases Y with
   | none=>obtain rfl:w0=.int .i64 mx:=O;obtain rfl:w=.int .i64 hi:=K;obtain rfl:lo=0:=U;exact lG hm hh
   | some w'=>obtain rfl:w0=.int .i64 mx:=O;obtain rfl:w=.int .i64 hi:=K;obtain rfl:w'=.int .i64 lo:=U;exact kY hm hh ag
theorem cQ{a:Option Addr}{c id:Nat}{U K:Option Value}{Q:Value->St->Prop}(Z:P.underlying t=some (.slice e))(ac:BB P e=some id)
  (ag:match K with | some w=>w=.int .i64 mx | none=>mx=c) (al:match Y with | some w=>w=.int .i64 hi | none=>hi=l/\K=none) (am:match U with | some w=>w=.int .i64 lo | none=>lo=0) (hm:mx<=c) (hh:hi<=mx) (ap:lo<=hi)
  (k:Q (.slice (if mx=lo then a else a.map (·.add (lo*id))) (hi - lo) (mx - lo)) s):lp P (Instr.slice t (.slice a l c) U Y K) s Q X:=by
 unfold Instr.slice;refine Ay _ _ (Cy Z ?_);have hb:=aP (P:=P) (s:=s) (X:=X) ag al am hm hh ap;refine Ay _ _ (Es _ hb ?_ (λ_ _ h=>h));rintro r s' ⟨rfl,rfl⟩;exact Ay _ _ (FC ac k)
theorem Yl.slice{ρ:Operand->Value}{a:Option Addr}{c id:Nat}{olo ohi omx:Option Operand}(U:P.underlying t=some (.slice e))(Y:BB P e=some id)(Z:ρ x=.slice a l c)
  (ac:match omx with | some w=>ρ w=.int .i64 mx | none=>mx=c) (K:match ohi with | some w=>ρ w=.int .i64 hi | none=>hi=l/\omx=none) (ag:match olo with | some w=>ρ w=.int .i64 lo | none=>lo=0) (hm:mx<=c) (hh:hi<=mx) (al:lo<=hi):
  Yl P ⟨d,.slice t x olo ohi omx,ty,p,af,g⟩ ρ s (.slice (if mx=lo then a else a.map (·.add (lo*id))) (hi - lo) (mx - lo)):=
 FY (sm:=Instr.sliceAt t (ρ x) (olo.map ρ) (ohi.map ρ) (omx.map ρ)) V (by
  rw[Z];unfold Instr.sliceAt
  refine Ay _ _ (Cy U ?_)
  refine cQ U Y (mx:=mx) (hi:=hi) (lo:=lo) ?_ ?_ ?_ hm hh al ⟨rfl,rfl⟩;cases omx<;>exact ac
  .cases ohi with
   | none=>exact⟨K.1,by rw[K.2];rfl⟩
   | some w=>exact K
  .cases olo<;>exact ag)
def IK(s:St)(v:Value)(K:Nat)(xs:Lv_):Prop:=
 match v with
 | .slice (some a) l c=>(a.spot=none∨l=0)/\xs.length=l*K/\l<=c/\∀j w,xs[j]?=some w->s.cell? ⟨a.block,a.off+j,none⟩=some w
 | .slice none l _=>l=0/\xs=[]
 | _=>False
theorem Et{a:Addr}(h:a.spot=none)(j:Nat):a.add j=⟨a.block,a.off+j,none⟩:=by
 unfold Addr.add;obtain⟨b,o,sp⟩:=a;simp only at h;subst h;split;rename_i e;subst e;rfl;rfl
theorem LD{id:Nat}{Q:Av_->St->Prop}(Z:∃a c,v=.slice a l c)(h:IK s v id xs)(k:Q xs.toArray s):lp P (Builtin.firstCells id l v) s Q X:=by
 obtain⟨a,c,rfl⟩:=Z;cases a with
 | none=>
  obtain⟨K,rfl⟩:=h;exact k
 | some a=>
  obtain⟨K,O,ag,ac⟩:=h;refine T9 O.symm (λj w U=>?_) k;rcases K with K | K;rw[Et K];exact ac j w U;rw[K,tY] at O;rw[sa O] at U;cases U
theorem aZ(nl:Nat):∀(r c:Nat),Builtin.growBy nl r c<=max c (2*nl+768):=by
 intro r
 induction r with
 | zero=>intro c;simp[Builtin.growBy];omega
 | succ r K=>
  intro c;simp only[Builtin.growBy];split;omega;rename_i h;have:=K (c+(c+768)/4);omega
theorem UB{need old:Nat}(h:old<need):Builtin.nextslicecap need old<=2*need+768:=by
 unfold Builtin.nextslicecap;split;omega;split;omega;have:=aZ need 4 old;omega
theorem T2(z:Av_)(m:Nat):(Builtin.zeroCells z m).size=m*z.size:=by simp[Builtin.zeroCells]
def QE(B:List (Nat×Obj))(pl:Nat)(e:TypeId)(K:Nat)(a:Option Addr)(l c:Nat)(xs:Lv_):Prop:=
 (a=none/\l=0/\c=0/\xs=[])∨∃bk f,a=some ⟨bk,0,none⟩/\B[pl]?=some (bk,.cells f e (0,0))/\f.size=c*K/\l<=c/\xs=f.toList.take (l*K)
theorem Ru(c:Av_)(off:Nat)(vs:Lv_)(h:off+vs.length<=c.size):(Bc c off vs).toList.take (off+vs.length)=c.toList.take off++vs:=by
 induction vs generalizing c off with
 | nil=>simp[Bc]
 | cons v vs O=>
  simp only[Bc,r4] at*;have:=O (c.setIfInBounds off v) (off+1) (by simp;omega);rw[show off+(vs.length+1)=off+1+vs.length from by omega,this];have K:off<c.toList.length:=by simp;omega
  rw[Array.toList_setIfInBounds,sE];have U:(c.toList.set off v)[off]?=some v:=by simp at K;simp[K]
  rw[U];simp[List.take_set_of_le]
theorem RN{a:Option Addr}{c id m:Nat}{z:Value}{Q:Value->St->Prop}
  (a7:ats[0]?=some t) {t1 a8:TypeId}(a9:ats[1]?=some t1) (bb:P.underlying t1=some (.slice a8)) (be:P.underlying t=some (.slice e)) (bi:BB P e=some K) (hb:Gs P e=some id) (bn:zeroOf P e=some z) (bo:z.cells.size=K)
  (aq:Nd E H B) (av:QE B pl e K a l c xs)
  (am:IK (mk E H B) (.slice ax m cx) K ys) (bv:∀w∈ys,C5 w=true) (ca:0<id) (cc:l+m<=2^40) (bw:id<=64)
  (bx:∀bk f O,a=some ⟨bk,0,none⟩->B[pl]?=some (bk,.cells f e (0,0))->O=Bc f (l*K) ys->l+m<=c->O.size=c*K->O.toList.take ((l+m)*K)=xs++ys->Nd E H (B.set pl (bk,.cells O e (0,0)))->Q (.slice a (l+m) c) (mk E H (B.set pl (bk,.cells O e (0,0)))))
  (bz:a=none->m=0->Q (.slice none 0 0) (mk E H B))
  (b0:∀r O Z,l+m<=Z->O.size=Z*K->O.toList.take ((l+m)*K)=xs++ys->Nd E H (B++ [(r,.cells O e (0,0))])->Q (.slice (some ⟨r,0,none⟩) (l+m) Z) (mk E H (B++ [(r,.cells O e (0,0))]))):
  lp P (Builtin.append_ ats ty #[.slice a l c,.slice ax m cx]) (mk E H B) Q X:=by
 unfold Builtin.append_;simp only[a7,a9,si,s3,tA];refine Ay _ _ (Cy be ?_);refine Ay _ _ (FC bi ?_);refine Ay _ _ (Cy bb ?_);simp only[I6,rY,sI,Builtin.lenOf,vX,sO];have ac:ys.length=m*K:=by
  cases ax with
  | none=>obtain⟨aw,ay⟩:=am;subst aw ay;simp
  | some ad=>exact am.2.1
 have az:∃(b1:Option Addr) (Z:Nat),IK (mk E H B) (.slice a l c) K xs/\b1=a/\Z=c:=by
  refine⟨a,c,?_,V,V⟩;rcases av with⟨rfl,rfl,rfl,rfl⟩ | ⟨bk,f,rfl,ag,U,al,rfl⟩;exact⟨V,V⟩
  .have hle:l*K<=f.size:=by rw[U];exact sH _ al
   refine⟨.inl V,by simp[tN hle],al,λj w ap=>?_⟩;refine V4 aq ag ?_;simp only[tx];rw[ta] at ap;split at ap;simpa using ap;cases ap
 obtain⟨_,_,az,_,_⟩:=az;have a0:xs.length=l*K:=by
  rcases av with⟨rfl,rfl,rfl,rfl⟩ | ⟨bk,f,rfl,ag,U,al,rfl⟩;simp
  .have hle:l*K<=f.size:=by rw[U];exact sH _ al
   simp[tN hle]
 split
 .rename_i a5;refine Ay _ _ (LD ⟨ax,cx,V⟩ am ?_);rcases av with⟨rfl,rfl,rfl,rfl⟩ | ⟨bk,f,rfl,ag,U,al,rfl⟩
  .obtain rfl:m=0:=by omega
   simp only;exact bz V V
  .simp only;have hle:l*K+ys.length<=f.size:=by rw[ac,U,← tM];exact sH _ a5
   have b2:(Addr.add ⟨bk,0,none⟩ (l*K))=⟨bk,l*K,none⟩:=by rw[Et rfl];simp
   rw[b2];refine Ay _ _ (OZ (pl:=pl) ys.toArray.toList 0 f B (by simpa using bv) aq ag (by simpa using hle) (.inl V) λB' a6 a1=>?_);simp only[sY] at a6;subst a6;refine bx bk f _ V ag V a5 (by rw[NH,U]) ?_ a1;have:=Ru f (l*K) ys hle;rw[ac,← tM] at this;exact this
 .rename_i ce;have aw:¬(((l+m:Nat):Int)>IntKind.i64.max/\(False∨id=0)):=by rintro⟨_,h | h⟩<;>omega
  have ay:¬(Builtin.nextslicecap (l+m) c*id>2^48):=by
   have:=UB (need:=l+m) (old:=c) (by omega);have ci:Builtin.nextslicecap (l+m) c*id<=(2*(l+m)+768)*64:=Nat.mul_le_mul this bw;omega
  let⟨inf,a2,a3⟩:=RY hb;refine Ay _ _ (LF a2 ?_);rw[a3,d0 aw];refine Ay _ _ (LF a2 ?_);rw[a3,d0 ay];refine Ay _ _ ?_;simp only[choose,lp,Question.forced,rY,sI];refine⟨V,λb3=>?_⟩;generalize b4:(Question.appendCap (l+m) c e).cut b3=a4;have b5:l+m<=a4:=by rw[← b4];simp[Question.cut]
  refine Ay _ _ (LF a2 ?_);rw[a3];have b6:∀{α:Type}{f:Unit->Sem α}{Q:α->St->Prop},lp P (f ()) (mk E H B) Q X->lp P (askRoom (a4*id)>>=f) (mk E H B) Q X:=by
   intro α f Q U;refine Ay _ _ ?_;unfold askRoom;split;exact⟨.inl ⟨V,V⟩,U⟩;exact U
  refine b6 (Ay _ _ (LD ⟨a,c,V⟩ az ?_));refine Ay _ _ (LD ⟨ax,cx,V⟩ am ?_);refine Ay _ _ (IB bn ?_);refine Ay _ _ (Kp aq λr a1=>?_);refine b0 r _ a4 b5 ?_ ?_ a1;simp only[Array.size_append,tS,T2,bo,a0,ac];rw[← tM,← tM];congr 1;omega;simp only[Array.toList_append];rw[vg (by simp[a0,ac,tM])];rw[s4 (by simp[a0,ac,tM])]
end
theorem QZ{P:Program}(x:Sem α):∀{s:St}{Q:α->St->Prop}{X:Halt->St->Prop},lp P x s Q X->lp P x s (λa s'=>Q a s'/\s'.E=s.E/\s'.q=s.q) X:=by
 induction x with
 | pure a=>intro s Q X h;exact⟨h,rfl,rfl⟩
 | load m a k K=>intro s Q X h;obtain⟨O,v,U,Y⟩:=h;exact⟨O,v,U,K _ Y⟩
 | store m a v k K=>intro s Q X h;obtain⟨O,U,o,Y,ac,ag,al⟩:=h;exact⟨O,U,o,Y,ac,ag,K al⟩
 | new o k K=>intro s Q X h;exact⟨h.1,λr O U=>K _ (h.2 r O U)⟩
 | shape r k K=>intro s Q X h;obtain⟨o,O,U⟩:=h;exact⟨o,O,K _ U⟩
 | freeze a n k K=>intro s Q X h;exact h
 | frozen a k K=>intro s Q X h;obtain⟨o,O,U⟩:=h;exact⟨o,O,K _ U⟩
 | getObj r k K=>intro s Q X h;obtain⟨o,O,U,Y⟩:=h;exact⟨o,O,U,K _ Y⟩
 | setObj r o k K=>intro s Q X h;obtain⟨O,U,Y⟩:=h;exact⟨O,U,K Y⟩
 | choose q k K=>
  intro s Q X h;simp only[lp] at h ⊢;split;rename_i Z;rw[d6 Z] at h;exact K _ h;rename_i Z;rw[d0 Z] at h;exact⟨h.1,λt=>K _ (h.2 t)⟩
 | sys c k K=>intro s Q X h;exact h
 | program k K=>intro s Q X h;exact K _ h
 | mark m k K=>intro s Q X h;exact⟨h.1,K h.2⟩
 | halt h=>intro s Q X h;exact h
def BC(D:Nat->Bool)(s:St):St:=⟨λb=>if D b then s.get b else s.E b,λb=>if D b then none else s.H b,s.q⟩
def CG(D:Nat->Bool)(s s':St):St:=⟨λb=>if D b then s.E b else s'.E b,λb=>if D b then s.H b else s'.H b,s'.q⟩
theorem MI(D:Nat->Bool)(s:St):CG D s (BC D s)=s:=by
 obtain⟨E,H,q⟩:=s;unfold CG BC;congr 1;funext b;by_cases h:D b<;>simp[h];funext b;by_cases h:D b<;>simp[h]
theorem cV{D:Nat->Bool}{s:St}(f:Fits s w):Fits (BC D s) w where
 e b o h:=by
  by_cases hd:D b;simp[BC,hd] at h;exact f.get h;simp[BC,hd] at h;exact f.e b o h
 h b o h:=by
  by_cases hd:D b;simp[BC,hd] at h;simp[BC,hd] at h;exact f.h b o h
 d b h:=by
  by_cases hd:D b;simp[BC,hd];simp[BC,hd] at h ⊢;exact f.d b h
def Fj{P:Program}(J:Judge P)(f:FuncId)(args:Av_)(s:St)(R:Value->St->Prop):Prop:=
 ∀(Q:Gs_) (c:Frame) (cs:Lf_),(∀v s',R v s'->J.ok Q (G (c.finish v) cs) s')->J.ok Q (G (Frame.enter P f args .normal) (c::cs)) s
variable{R:Value->St->Prop}
theorem Fj.M{P:Program}{J:Judge P}{f:FuncId}{s:St}{K:Value->St->Prop}(h:Fj J f args s R)(O:∀v s',R v s'->K v s'):Fj J f args s K:=
 λQ c cs U=>h Q c cs λv s' Y=>U v s' (O v s' Y)
section
variable {b:Frame}{n:Nat}
theorem Judge.Wk(D:Nat->Bool){ops:Ao_}{i:Nat}{rest:List Nat}{o:Oper}(Y:ops[i]?=some o)(hw:Region.wanted o (yielded ops T)=true)(a6:b.kind≠ .early)
  (hd:∀c,o.op≠ .defer c) (a7:s.q=false)
  (h:lp P (execOp (BK T) o) (BC D s) (λap s'=>upon J Q b T ds ops i rest k cs o.dst ap (CG D s s')) (λ_ _=>False)):
  J.ok Q (G (fr b T ds (.inRegion ops (i::rest)::k)) cs) s:=by
 refine J.step ⟨V,λw f=>?_,λe=>by subst e;cases a7⟩;have Z:((fr b T ds (.inRegion ops (i::rest)::k)).kind==CallKind.early)=false:=by simpa [fr] using a6
 have a8:stepG P J.main (G (fr b T ds (.inRegion ops (i::rest)::k)) cs) w=stepG.apply P true (fr b T ds (.inRegion ops (i::rest)::k)) cs none (execOp (BK T) o) w:=by
  rw[stepG_op Y hw];split;rename_i l c bv e2;exact absurd e2 (hd c);rfl
 let⟨ac,aq,av,a9,O⟩:=Pk _ (QZ _ h) (cV (D:=D) f);have aw:=SN (P:=P) (fn:=b.fn) a9;have a1:=λv=>Hg (b:=b) (ds:=ds) (k:=k) T ops i rest v o Y;have key:∀w',Fits ac w'->Fr (BC D s) w ac w'->ac.E=(BC D s).E->Fits (CG D s ac) w'/\Fr s w (CG D s ac) w':=by
  intro w' ay g2 bb;have a2:∀b,D b=true->b<w.heap.size->w'.heap[b]?=w.heap[b]? :=λb hb az=>g2.keep b az (by simp[BC,hb]);have a3:∀b o,(s.H b=some o∨s.E b=some o)->b<w.heap.size:=λb o Y=>by
   have:=Y.elim (f.h b o) (f.e b o);rcases jH b w.heap.size with a0 | a0;exact a0;simp[rZ a0] at this
  refine⟨⟨λb o hb=>?_,λb o hb=>?_,λb hb=>?_⟩,⟨g2.size,λb az hb=>?_,λb hb=>?_,λb o hb=>?_,λb hb=>?_,g2.tape,g2.os,g2.output⟩⟩;by_cases K:D b;simp[CG,K] at hb;rw[a2 b K (a3 b o (.inr hb))];exact f.e b o hb;simp[CG,K] at hb;exact ay.e b o hb;by_cases K:D b;simp[CG,K] at hb;rw[a2 b K (a3 b o (.inl hb))];exact f.h b o hb;simp[CG,K] at hb;exact ay.h b o hb;by_cases K:D b;simp[CG,K] at hb ⊢;exact f.d b hb;simp[CG,K] at hb ⊢;exact ay.d b hb;exact g2.keep b az (by by_cases K:D b<;>simp[BC,K,hb]);by_cases K:D b;simp[CG,K] at hb;exact .inl hb;simp[CG,K] at hb;rcases g2.own b hb with q | q;left;simpa [BC,K] using q;exact .inr q;by_cases K:D b;simp[CG,K];exact hb;simp only[CG,K,rY,sI];rw[bb];simp[BC,K,hb];by_cases K:D b;simp[CG,K] at hb;exact .inl hb;simp[CG,K] at hb;rcases g2.Fy b hb with q | q | q;left;simpa [BC,K] using q;right;left;simpa [BC,K] using q;exact .inr (.inr q)
 have be:∀w',(∀e∈seen P b.fn ((execOp (BK T) o).events P w #[]),Ev (BC D s) w w' e)->∀e∈seen P b.fn ((execOp (BK T) o).events P w #[]),Ev s w w' e:=by
  intro w' he e hm;have:=he e hm;have a4:∀{b wr},HA (BC D s) w w' b wr->HA s w w' b wr:=by
   intro b wr a5;refine⟨a5.1,?_⟩;rcases a5.2 with q | q | ⟨q,q'⟩;left;by_cases K:D b<;>simp[BC,K] at q;exact q;exact .inr (.inl q);by_cases K:D b;simp[BC,K,St.get] at q;by_cases am:s.E b=none;left;intro bi;rw[am,bi] at q;exact q V;exact .inr (.inr ⟨am,q'⟩);simp[BC,K] at q;exact .inr (.inr ⟨q,q'⟩)
  unfold Ev at this ⊢;split<;>rename_i bn<;>simp only[bn] at this;exact⟨this.1,a4 this.2⟩;exact⟨this.1,a4 this.2⟩;trivial;trivial
 rw[a8];cases U:(execOp (BK T) o).run P w with
 | ok ap w'=>
  rw[U] at aq av O aw;simp only[Mp] at aq av aw;obtain⟨O,am,_⟩:=O;let⟨k1,ag⟩:=key w' aq av am;have al:=be w' aw;cases ap with
  | value v=>exact⟨_,_,w',seen P b.fn ((execOp (BK T) o).events P w #[])++ #[],by simp[stepG.apply,U,Z,GStep.after,G,a1,GI],O,k1,ag,by simpa using al⟩
  | skip=>exact⟨_,_,w',seen P b.fn ((execOp (BK T) o).events P w #[])++ #[],by simp[stepG.apply,U,Z,GStep.after,G,a1,GI],O,k1,ag,by simpa using al⟩
  | enter g args=>exact⟨_,_,w',seen P b.fn ((execOp (BK T) o).events P w #[])++ #[],by simp[stepG.apply,U,Z,GStep.after,G,GI,Jh],O,k1,ag,by simpa using al⟩
  | round l g tm as bw=>exact⟨_,_,w',seen P b.fn ((execOp (BK T) o).events P w #[])++ #[],by simp[stepG.apply,U,Z,GStep.after,G,GI,Jh],O,k1,ag,by simpa using al⟩
  | defer d=>
   have bo:=Hg (b:=b) (ds:=d::ds) (k:=k) T ops i rest undef o Y;exact⟨_,_,w',seen P b.fn ((execOp (BK T) o).events P w #[])++ #[],by
    rw[← bo];simp[stepG.apply,U,Z,GStep.after,G,GI,Jh];rfl,O,k1,ag,by simpa using al⟩
  | _=>exact O.elim
 | halt x w'=>rw[U] at O;exact O.elim
end
def Tl(m:Nat)(listed:Array Bool):Bool:=(List.range m).all λi=>listed.getD i false
def Bp(listed:Array Bool)(i:Nat):Array Bool:=listed.setIfInBounds i true
variable{oi:Oper}
section
variable (J:Judge P)(Q:Gs_)(b:Frame)(ds:Ld_)(ops:Ao_)(k:Li_)(cs:Lf_)(m:Nat)(D:Nat->Bool)
def JA:Nat->Array Bool->Av_->St->Prop
 | 0,listed,T,s=>Region.ready .any ops listed=[]/\J.ok Q (G (fr b T ds (.inRegion ops []::k)) cs) s
 | fuel+1,listed,T,s=>
  (Tl m listed=true/\∀t,J.ok Q (G (fr b T ds (.inRegion ops (Region.linearise.go .any ops (fuel+1) t listed [])::k)) cs) s)∨
  (Region.ready .any ops listed≠ []/\s.q=false/\∀i∈Region.ready .any ops listed,∀o,ops[i]?=some o->(∀c,o.op≠ .defer c)/\
   (Region.wanted o (yielded ops T)=false->JA fuel (Bp listed i) (C6 T o.dst undef) s)/\
   (Region.wanted o (yielded ops T)=true->lp P (execOp (BK T) o) (BC D s) (λO s'=>match O with
    | .value v=>JA fuel (Bp listed i) (C6 T o.dst v) (CG D s s')
    | .skip=>JA fuel (Bp listed i) (C6 T o.dst undef) (CG D s s')
    | .enter f args=>∃R,Fj J f args (CG D s s') R/\∀v K,R v K->K.q=false/\(∀x o,(BC D s).E x=some o->(BC D K).E x=some o)/\JA fuel (Bp listed i) (C6 T o.dst v) K
    | _=>False) (λ_ _=>False)))
variable {J Q b ds ops k cs m D}
theorem dA(Z:b.kind≠ .early):∀(fuel t:Nat) (listed:Array Bool) (T:Av_) (s:St),JA J Q b ds ops k cs m D fuel listed T s->
  J.ok Q (G (fr b T ds (.inRegion ops (Region.linearise.go .any ops fuel t listed [])::k)) cs) s:=by
 intro fuel
 induction fuel with
 | zero=>intro t listed T s h;simpa [Region.linearise.go] using h.2
 | succ fuel K=>
  intro t listed T s h;rcases h with⟨_,h⟩ | ⟨ac,ag,h⟩;exact h t
  .obtain⟨i,hi⟩:∃i,(Region.ready .any ops listed)[t%(Region.ready .any ops listed).length]?=some i:=by
    have:0<(Region.ready .any ops listed).length:=vk.2 ac;exact⟨_,cT (uU _ this)⟩
   have Y:=r7 hi;have hgo:Region.linearise.go .any ops (fuel+1) t listed []=i::Region.linearise.go .any ops fuel (t/(Region.ready .any ops listed).length) (Bp listed i) []:=by
    simp only[Region.linearise.go];change (match(Region.ready .any ops listed)[t%(Region.ready .any ops listed).length]? with
     | some i=>Region.linearise.go .any ops fuel (t/(Region.ready .any ops listed).length) (listed.setIfInBounds i true) [i]
     | none=>[].reverse)=_
    rw[hi];simp only;rw[linearise_go_acc];rfl
   rw[hgo];let⟨_,o,O,_⟩:=mem_ready.1 Y;let⟨hd,al,am⟩:=h i Y o O;cases hw:Region.wanted o (yielded ops T) with
   | false=>exact Judge.unwanted O hw (K _ _ _ _ (al hw))
   | true=>
    refine Judge.Wk D O hw Z hd ag (Es _ (am hw) ?_ (λ_ _ h=>h));intro ap s' U;cases ap with
    | value v=>exact K _ _ _ _ U
    | skip=>exact K _ _ _ _ U
    | enter f args=>
     obtain⟨R,aq,av⟩:=U;refine aq Q _ cs λv aw ay=>?_;rw[Hg _ _ _ _ _ _ O];exact K _ _ _ _ (av v aw ay).2.2
    | _=>exact U.elim
theorem gr{d:Option Tmp}{v:Value}{x:Operand}(h:∀t,d=some t->x≠ .tmp t):BK (C6 T d v) x=BK T x:=by
 cases d with
 | none=>rfl
 | some t=>
  cases x with
  | tmp u=>
   have K:t≠u:=λe=>h t rfl (e▸rfl);simp only[C6,BK,j8,mt K]
  | _=>rfl
theorem I9{d:Option Tmp}{v:Value}{o:Oper}(K:∀cs b,o.op≠ .select cs b)(h:∀t,d=some t->t ∉ o.looksAt ops):
  execOp (BK (C6 T d v)) o=execOp (BK T) o/\Region.wanted o (yielded ops (C6 T d v))=Region.wanted o (yielded ops T):=by
 refine⟨execOp_congr o K λx O=>gr λt U Y=>h t U ?_,?_⟩;subst Y;exact sD _ (vv.2 ⟨.tmp t,by simpa using O,V⟩)
 .have:=wanted_put (ops:=ops) o (⟨T,[]⟩:Act) d v h
  rwa[act_put'] at this
 where
  act_put' {T : Av_}{d : Option Tmp}{v : Value} : (⟨T, []⟩ : Act).put d v = ⟨C6 T d v, []⟩ :=by cases d<;>rfl
theorem Ko{d e:Option Tmp}{v u:Value}(h:∀t,d=some t->e≠some t):C6 (C6 T d v) e u=C6 (C6 T e u) d v:=by
 cases d with
 | none=>rfl
 | some t=>
  cases e with
  | none=>rfl
  | some K=>
   have O:t≠K:=λq=>h t rfl (q▸rfl);simp[C6,uL _ _ O]
theorem Ul{D:Nat->Bool}{s s':St}(K:s'.E=(BC D s).E):(BC D (CG D s s')).E=(BC D s).E:=by
 funext x;by_cases h:D x;simp[BC,CG,h,St.get];have:=we K x;simp[BC,h] at this;simp[BC,CG,h,this]
def J1(ops:Ao_)(listed:Array Bool)(i:Nat)(oi:Oper):Bool:=
 (List.range ops.size).all λj=>j==i || listed.getD j true || match ops[j]? with
  | some K=>(K.after.any λe=>Region.binds .any e&&e.on==i) || oi.apart ops K
  | none=>true
def waits(ops:Ao_):Nat->Nat->Nat->Bool
 | 0,_,_=>false
 | f+1,j,i=>match ops[j]? with
  | some K=>K.after.any λe=>Region.binds .any e&&(e.on==i || waits ops f e.on i)
  | none=>true
def EC(ops:Ao_)(m:Nat):Bool:=
 (List.range ops.size).all λj=>decide (j<m) || (List.range m).all λi=>waits ops ops.size j i
def IG(ops:Ao_)(listed:Array Bool):Bool:=
 (List.range ops.size).all λj=> !listed.getD j false || match ops[j]? with
  | some K=>K.after.all λe=> !Region.binds .any e || listed.getD e.on false
  | none=>true
theorem Rx{listed:Array Bool}(h:IG ops listed=true){j:Nat}(O:ops[j]?=some oi)(U:listed.getD j false=true):∀e∈oi.after,Region.binds .any e=true->listed.getD e.on false=true:=by
 intro e he hb;have:=lH.1 h j (rH.2 (f8.1 O).1);rw[U,O] at this;simp only[v8,uZ] at this;have:=tZ.1 this e he;rw[hb] at this;simpa using this
theorem Ua{listed:Array Bool}(Z:IG ops listed=true){i:Nat}:∀(f j:Nat) (O:Oper),ops[j]?=some O->(∀e∈O.after,Region.binds .any e=true->listed.getD e.on false=true)->waits ops f j i=true->listed.getD i false=true∨∃x,ops[x]?=none/\listed.getD x false=true:=by
 intro f
 induction f with
 | zero=>intro j O _ _ h;cases h
 | succ f ac=>
  intro j O ag hd h;simp only[waits,ag] at h;let⟨e,he,K⟩:=Array.any_eq_true'.1 h;simp only[f5,sW,tr] at K;obtain⟨hb,K⟩:=K;have U:=hd e he hb;rcases K with rfl | K;exact .inl U
  .cases Y:ops[e.on]? with
   | none=>exact .inr ⟨_,Y,U⟩
   | some o=>exact ac e.on o Y (λal am ap=>Rx Z Y U al am ap) K
theorem JA.take{i:Nat}{w:Bool}{v:Value}(hi:ops[i]?=some oi)(cp:i<m)(ct:EC ops m=true)(cw:Region.noSelect ops=true)(cy:∀c,oi.op≠ .defer c):
  ∀(fuel:Nat) (listed:Array Bool) (T:Av_) (s:St),J1 ops listed i oi=true->IG ops listed=true->listed.size=ops.size->i∈Region.ready .any ops listed->s.q=false->Region.wanted oi (yielded ops T)=w->
   (w=true->∀s',s'.q=false->(∀x o,(BC D s).E x=some o->s'.E x=some o)->Yl P oi (BK T) s' v)->
   JA J Q b ds ops k cs m D fuel (Bp listed i) (C6 T oi.dst (if w then v else undef)) s->JA J Q b ds ops k cs m D (fuel+1) listed T s:=by
 have av:∀(j:Nat) (ag:Oper),ops[j]?=some ag->∀cs b,ag.op≠Op.select cs b:=λj ag h cs b=>Region.noSelect_spec cw j ag cs b h;intro fuel
 induction fuel with
 | zero=>?_
 | succ fuel a2=>?_
 all_goals
  intro listed T s b1 b2 aw a3 a4 hw ay h;refine .inr ⟨λe=>(by rw[e] at a3;cases a3),a4,λj b3 ag O=>?_⟩;by_cases aq:j=i
  .subst aq;obtain rfl:ag=oi:=by rw[hi] at O;exact(f6 O).symm
   refine⟨cy,λbi=>?_,λbn=>?_⟩;rw[bi] at hw;subst hw;exact h;rw[bn] at hw;subst hw;refine Es _ (ay V (BC D s) a4 λ_ _ h=>h).out ?_ (λ_ _ h=>h);rintro b4 s' ⟨rfl,rfl⟩;rw[MI];exact h
  ·
   have b5:j∈Region.ready .any ops (Bp listed i):=ready_mono b3 aq;let⟨al,U,b6,bo⟩:=mem_ready.1 b3;obtain rfl:U=ag:=by rw[O] at b6;exact(f6 b6).symm
   have bv:=(mem_ready.1 a3).1;have c0:(U.after.any λe=>Region.binds .any e&&e.on==i)=false:=by
    rw[Array.any_eq_false];intro e he K;simp only[f5,tr] at K;have:=bo _ (Array.getElem_mem he) K.1;rw[K.2] at this;have Y:listed.getD i true=listed.getD i false∨listed.size<=i:=by
     rcases jH i listed.size with q | q;left;simp[j8,q];exact .inr q
    rcases Y with Y | Y;rw[bv,this] at Y;cases Y;rw[j8,rZ Y] at this;simp at this
   have c1:oi.apart ops U=true:=by
    have az:j<ops.size:=(f8.1 O).1;have:=lH.1 b1 j (rH.2 az);simp only[sW,tr] at this;rcases this with(q | q) | q;exact absurd q aq;rw[al] at q;cases q;rw[O] at q;simp only[sW] at q;rw[c0] at q;exact q.resolve_left (by simp)
   let⟨a1,a5,a6⟩:=Oper.apart_spec c1;let⟨p1,p2⟩:=I9 (ops:=ops) (T:=T) (v:=if w then v else undef) (av j U O) a1
   first
    | exact absurd b5 (by rw[h.1];simp)
    | (
     rcases h with⟨c2,_⟩ | ⟨ec,_,h⟩
     ·
      exfalso
      have c3:¬j<m:=by
       intro az
       have:=lH.1 c2 j (rH.2 az)
       have e2:(Bp listed i).getD j false=listed.getD j false:=getD_set_ne false (sy aq)
       rw[e2] at this
       have Y:listed.getD j true=true:=by
        rcases jH j listed.size with q | q;simp[j8,q] at this ⊢;exact this;simp[j8,rZ q] at this
       rw[al] at Y;cases Y
      have az:j<ops.size:=(f8.1 O).1
      have:=lH.1 ct j (rH.2 az)
      simp only[sW,tg] at this
      have:=lH.1 (this.resolve_left c3) i (rH.2 cp)
      rcases Ua b2 _ j U O (λe he hb=>bo e he hb) this with q | ⟨x,Z,ac⟩
      .have c4:i<listed.size:=by rw[aw];exact(f8.1 hi).1
       simp[j8,c4] at q bv
       rw[bv] at q;cases q
      .have:¬x<listed.size:=by rw[aw];intro K;simp[K] at Z
       simp[j8,this] at ac
     .let⟨hd,bi,bn⟩:=h j b5 U O
      have a7:Bp (Bp listed i) j=Bp (Bp listed j) i:=by
       unfold Bp;exact uL _ _ (sy aq)
      have a8:i∈Region.ready .any ops (Bp listed j):=ready_mono a3 (sy aq)
      have a9:J1 ops (Bp listed j) i oi=true:=by
       refine lH.2 λx K=>?_
       have:=lH.1 b1 x K
       simp only[sW,tr] at this ⊢
       rcases this with(q | q) | q;exact .inl (.inl q)
       .left;right
        by_cases e:j=x;subst e;rw[al] at q;cases q;rw[Bp,getD_set_ne true e];exact q
       .exact .inr q
      have bb:(Bp listed j).size=ops.size:=by unfold Bp;simpa using aw
      have be:IG ops (Bp listed j)=true:=by
       refine lH.2 λx K=>?_
       cases bw:ops[x]? with
       | none=>simp
       | some c5=>
        simp only[sW,ua]
        by_cases e:j=x
        .subst e
         obtain rfl:c5=U:=by rw[O] at bw;exact(f6 bw).symm
         right
         refine tZ.2 λe he=>?_
         cases hb:Region.binds .any e with
         | false=>simp
         | true=>
          have:=bo e he hb
          by_cases e2:j=e.on
          .rw [← e2] at this
           have bx:j<listed.size:=by rw[aw];exact(f8.1 O).1
           simp[j8,bx] at this al
           rw[al] at this;cases this
          .rw [Bp,getD_set_ne false e2];simpa using this
        .cases ca:(Bp listed j).getD x false with
         | false=>exact .inl rfl
         | true=>
          right
          have c6:listed.getD x false=true:=by rw[Bp,getD_set_ne false e] at ca;exact ca
          refine tZ.2 λbz he=>?_
          cases hb:Region.binds .any bz with
          | false=>simp
          | true=>
           have:=Rx b2 bw c6 bz he hb
           by_cases e2:j=bz.on
           .rw [← e2] at this
            have bx:j<listed.size:=by rw[aw];exact(f8.1 O).1
            simp[j8,bx] at this al
            rw[al] at this;cases this
           .rw [Bp,getD_set_ne false e2];simpa using this
      refine⟨hd,λc7=>?_,λc8=>?_⟩
      .have:=bi (by rw[p2];exact c7)
       rw[a7,Ko a5] at this
       let⟨Z,ac⟩:=I9 (ops:=ops) (T:=T) (d:=U.dst) (v:=undef) (o:=oi) (av i oi hi) a6
       exact a2 _ _ _ a9 be bb a8 a4 (by rw[ac];exact hw) (λam s' c9 b0=>by unfold Yl;rw[Z];exact(ay am s' c9 b0).out) this
      .have cc:=QZ _ (bn (by rw[p2];exact c8))
       rw[p1] at cc
       refine Es _ cc ?_ (λ_ _ h=>h)
       rintro b4 s' ⟨K,b0,dd⟩
       have ce:=Ul (D:=D) b0
       have ci:(CG D s s').q=false:=by show s'.q=false;rw[dd];exact a4
       cases b4 with
       | value u=>
        simp only at K ⊢
        rw[a7,Ko a5] at K
        let⟨Z,ac⟩:=I9 (ops:=ops) (T:=T) (d:=U.dst) (v:=u) (o:=oi) (av i oi hi) a6
        exact a2 _ _ _ a9 be bb a8 ci (by rw[ac];exact hw) (λam s2 a0 ap=>by unfold Yl;rw[Z];exact(ay am s2 a0 (by rw[ce] at ap;exact ap)).out) K
       | skip=>
        simp only at K ⊢
        rw[a7,Ko a5] at K
        let⟨Z,ac⟩:=I9 (ops:=ops) (T:=T) (d:=U.dst) (v:=undef) (o:=oi) (av i oi hi) a6
        exact a2 _ _ _ a9 be bb a8 ci (by rw[ac];exact hw) (λam s2 a0 ap=>by unfold Yl;rw[Z];exact(ay am s2 a0 (by rw[ce] at ap;exact ap)).out) K
       | enter f args=>
        obtain⟨R,dj,ea⟩:=K
        refine⟨R,dj,λu eb hu=>?_⟩
        let⟨co,r1,r2⟩:=ea u eb hu
        refine⟨co,r1,?_⟩
        rw[a7,Ko a5] at r2
        let⟨Z,ac⟩:=I9 (ops:=ops) (T:=T) (d:=U.dst) (v:=u) (o:=oi) (av i oi hi) a6
        exact a2 _ _ _ a9 be bb a8 co (by rw[ac];exact hw) (λam s2 a0 ap=>by unfold Yl;rw[Z];exact(ay am s2 a0 (λx o K=>ap x o (r1 x o K))).out) r2
       | _=>exact K.elim)
end
section
variable (J:Judge P)(Q:Gs_)(b:Frame)(n:Nat)(ds:Ld_)(ops:Ao_)(k:Li_)(cs:Lf_)(m:Nat)(D:Nat->Bool)
def A3(fuel:Nat)(listed:Array Bool)(L:Env)(s:St):Prop:=∀T,Has n L T->JA J Q b ds ops k cs m D fuel listed T s
end
def Ec:Nat->Bool:=λ_=>false
variable {D:Nat->Bool}{listed:Array Bool}
variable{tail:List Nat}
section
variable {b:Frame}{n m fuel:Nat}
theorem R6(m:Nat)(D:Nat->Bool){id:Nat}(K:s.q=false)(hm:P.follows .mixedOrders=true)(O:(b.kind != .early)=true)(h:A3 J Q b n ds ops k cs m D ops.size (Array.replicate ops.size false) L s):JL J Q b n L ds (.code (.region id ops true)::k) cs s:=
 We K hm λt T U=>dA (by simpa using O) ops.size t _ T s (h T U)
theorem bK{i:Nat}{v:Value}(hi:ops[i]?=some oi)(U:decide (i<m)=true)(Y:EC ops m=true)(Z:Region.noSelect ops=true)(O:(!EN oi.op)=true)(ac:J1 ops listed i oi=true)(ag:IG ops listed=true)(al:(listed.size==ops.size)=true)(am:(Region.ready .any ops listed).contains i=true)(ap:s.q=false)
  (hw:A2 L ops oi=some true) (aq:Bz n oi.dst=true) (av:∀ρ,Ft L ρ->∀s',s'.q=false->(∀x o,(BC D s).E x=some o->s'.E x=some o)->Yl P oi ρ s' v)
  (h:A3 J Q b n ds ops k cs m D fuel (Bp listed i) (AA L oi.dst v) s):A3 J Q b n ds ops k cs m D (fuel+1) listed L s:=λT K=>by
 refine JA.take (w:=true) (v:=v) hi (by simpa using U) Y Z (λc aw=>by rw[aw] at O;simp[EN] at O) fuel listed T s ac ag (by simpa using al) (by simpa using am) ap (Cn K hw) (λ_ s' ay az=>av _ K.GJ s' ay az) ?_
 exact h _ (K.put aq v)
theorem ae{i:Nat}(hi:ops[i]?=some oi)(U:decide (i<m)=true)(Y:EC ops m=true)(Z:Region.noSelect ops=true)(K:(!EN oi.op)=true)(ac:J1 ops listed i oi=true)(ag:IG ops listed=true)(al:(listed.size==ops.size)=true)(am:(Region.ready .any ops listed).contains i=true)(ap:s.q=false)
  (hw:A2 L ops oi=some false) (aq:Bz n oi.dst=true)
  (h:A3 J Q b n ds ops k cs m D fuel (Bp listed i) (AA L oi.dst undef) s):A3 J Q b n ds ops k cs m D (fuel+1) listed L s:=λT O=>by
 refine JA.take (w:=false) (v:=undef) hi (by simpa using U) Y Z (λc av=>by rw[av] at K;simp[EN] at K) fuel listed T s ac ag (by simpa using al) (by simpa using am) ap (Cn O hw) (λe=>by cases e) ?_
 exact h _ (O.put aq undef)
theorem V7(al:s.q=false)(am:Region.ready .any ops listed≠ [])
  (h:∀i∈Region.ready .any ops listed,∀o,ops[i]?=some o->(!EN o.op)=true/\Bz n o.dst=true/\∃w,A2 L ops o=some w/\
   (w=false->A3 J Q b n ds ops k cs m D fuel (Bp listed i) (AA L o.dst undef) s)/\
   (w=true->∀ρ,Ft L ρ->lp P (execOp ρ o) (BC D s) (λac s'=>match ac with
    | .value v=>A3 J Q b n ds ops k cs m D fuel (Bp listed i) (AA L o.dst v) (CG D s s')
    | .skip=>A3 J Q b n ds ops k cs m D fuel (Bp listed i) (AA L o.dst undef) (CG D s s')
    | .enter f args=>∃R,Fj J f args (CG D s s') R/\∀v K,R v K->K.q=false/\(∀x o,(BC D s).E x=some o->(BC D K).E x=some o)/\A3 J Q b n ds ops k cs m D fuel (Bp listed i) (AA L o.dst v) K
    | _=>False) (λ_ _=>False))):
  A3 J Q b n ds ops k cs m D (fuel+1) listed L s:=λT O=>by
 refine .inr ⟨am,al,λi hi o ap=>?_⟩
 let⟨ag,U,w,hw,aq,av⟩:=h i hi o ap
 have Y:=Cn O hw
 refine⟨λc aw=>by rw[aw] at ag;simp[EN] at ag,λe=>?_,λe=>?_⟩
 .rw [e] at Y
  exact aq Y.symm _ (O.put U undef)
 .rw [e] at Y;refine Es _ (av Y.symm _ O.GJ) ?_ (λ_ _ h=>h);intro ac s' Z;cases ac with
  | value v=>exact Z _ (O.put U v)
  | skip=>exact Z _ (O.put U undef)
  | enter f args=>
   obtain⟨R,ay,az⟩:=Z;exact⟨R,ay,λv K a0=>let ⟨a,b,c⟩:=az v K a0;⟨a,b,c _ (O.put U v)⟩⟩
  | _=>exact Z.elim
theorem A3.one{i:Nat}{o:Oper}(ac:s.q=false)(Y:Region.ready .any ops listed=[i])(hi:ops[i]?=some o)(O:(!EN o.op&&Bz n o.dst)=true)(hw:A2 L ops o=some true)
  (h:∀ρ,Ft L ρ->lp P (execOp ρ o) (BC D s) (λag s'=>match ag with
    | .value v=>A3 J Q b n ds ops k cs m D fuel (Bp listed i) (AA L o.dst v) (CG D s s')
    | .skip=>A3 J Q b n ds ops k cs m D fuel (Bp listed i) (AA L o.dst undef) (CG D s s')
    | .enter f args=>∃R,Fj J f args (CG D s s') R/\∀v K,R v K->K.q=false/\(∀x o,(BC D s).E x=some o->(BC D K).E x=some o)/\A3 J Q b n ds ops k cs m D fuel (Bp listed i) (AA L o.dst v) K
    | _=>False) (λ_ _=>False)):
  A3 J Q b n ds ops k cs m D (fuel+1) listed L s:=by
 simp only[f5] at O;refine V7 ac (by rw[Y];simp) λj U o' Z=>?_;rw[Y] at U;simp at U;subst U;obtain rfl:o'=o:=by rw[hi] at Z;exact(f6 Z).symm
 exact⟨O.1,O.2,true,hw,λe=>(by cases e),λ_=>h⟩
theorem A3.call{i:Nat}{d:Option Tmp}{f:FuncId}{args:Array Operand}{ty:TypeId}{p:String}{af:Ae_}{g:On_}(U:s.q=false)(Y:Region.ready .any ops listed=[i])
  (Z:ops[i]?=some ⟨d,.call ⟨.value (.func f),args,ats⟩,ty,p,af,g⟩) (ac:Bz n d=true) (hw:A2 L ops ⟨d,.call ⟨.value (.func f),args,ats⟩,ty,p,af,g⟩=some true) (hb:El P f=true) (ag:evs L args.toList=some vs)
  (al:Fj J f vs.toArray s R) (h:∀v K,R v K->K.q=false/\(∀x o,(BC D s).E x=some o->(BC D K).E x=some o)/\A3 J Q b n ds ops k cs m D fuel (Bp listed i) (AA L d v) K):
  A3 J Q b n ds ops k cs m D (fuel+1) listed L s:=by
 refine A3.one U Y Z (by simp[EN,ac]) hw λρ O=>?_;have am:args.map ρ=vs.toArray:=by
  rw[← GF O ag];apply s5;simp
 have ap:ρ (.func f)=.func (.func f) #[] #[]:=O _ _ V;simp only[execOp,resolve,bind,Sem.bind,Deferred.ofValue,ap,pure,invoke];have e: #[]++args.map ρ++ #[]=vs.toArray:=by rw[am];simp
 rw[e];refine Kl hb ?_;rw[MI];exact⟨R,al,h⟩
theorem A3.leaf(K:Tl m listed=true)(hgo:∀t,Region.linearise.go .any ops (fuel+1) t listed []=tail)(h:JL J Q b n L ds (.inRegion ops tail::k) cs s):A3 J Q b n ds ops k cs m D (fuel+1) listed L s:=λT O=>
 .inl ⟨K,λt=>by rw[hgo t];exact h T O⟩
theorem A3.fin(K:Region.ready .any ops listed=[])(h:JL J Q b n L ds k cs s):A3 J Q b n ds ops k cs m D 0 listed L s:=λT O=>⟨K,JL.done h T O⟩
theorem iq{listed:Array Bool}{i id:Nat}(K:Region.ready .any ops listed=[i])(h:∀t,Region.linearise.go .any ops id t (Bp listed i) []=tail)(t:Nat):Region.linearise.go .any ops (id+1) t listed []=i::tail:=by
 simp only[Region.linearise.go];change (match(Region.ready .any ops listed)[t%(Region.ready .any ops listed).length]? with
  | some i=>Region.linearise.go .any ops id (t/(Region.ready .any ops listed).length) (listed.setIfInBounds i true) [i]
  | none=>[].reverse)=_
 rw[K];simp only[s7,Nat.mod_one,s3];rw[linearise_go_acc];have:=h (t/1);unfold Bp at this;rw[this];rfl
theorem dO{i:Nat}{rest:List Nat}{d:Option Tmp}{f:FuncId}{args:Array Operand}{ty:TypeId}{p:String}{af:Ae_}{g:On_}
  (U:ops[i]?=some ⟨d,.call ⟨.value (.func f),args,ats⟩,ty,p,af,g⟩) (hw:A2 L ops ⟨d,.call ⟨.value (.func f),args,ats⟩,ty,p,af,g⟩=some true) (K:((b.kind != .early)&&Bz n d)=true) (hb:El P f=true)
  (Y:evs L args.toList=some vs) (Z:Fj J f vs.toArray s R) (ac:∀v s',R v s'->JL J Q b n (AA L d v) ds (.inRegion ops rest::k) cs s'):
  JL J Q b n L ds (.inRegion ops (i::rest)::k) cs s:=λT O=>by
 simp only[f5] at K
 have ag:args.map (BK T)=vs.toArray:=by
  rw[← GF O.GJ Y];apply s5;simp
 refine Judge.oper U (Cn O hw) (by simpa using K.1) (.inr λc al=>by cases al) ?_;have hd:lp P (execOp (BK T) ⟨d,.call ⟨.value (.func f),args,ats⟩,ty,p,af,g⟩) s (upon J Q b T ds ops i rest k cs d) (M7 J Q b T ds ops i rest k cs):=by
  simp only[execOp,resolve,bind,Sem.bind,Deferred.ofValue,BK,pure,invoke];have e: #[]++args.map (BK T)++ #[]=vs.toArray:=by rw[ag];simp
  rw[e];refine Kl hb (Z Q _ cs λv s' am=>?_);rw[Hg (o:=⟨d,.call ⟨.value (.func f),args,ats⟩,ty,p,af,g⟩) _ _ _ _ _ U];exact ac v s' am _ (O.put K.2 v)
 exact hd
theorem Fj.enter{f:FuncId}{c:Code}(Y:P.funcs[f]?=some fn)(hb:fn.body=some c)(al:vs.length<=fn.ntmps)
  (h:∀(Q:Gs_) (K:Frame) (cs:Lf_),(∀v s',R v s'->J.ok Q (G (K.finish v) cs) s')->JL J Q (base f) fn.ntmps (GY 0 vs) [] [.code c] (K::cs) s):Fj J f vs.toArray s R:=λQ K cs Z=>by
 have he:Frame.enter P f vs.toArray .normal=fr (base f) (vs.toArray++Array.replicate (fn.ntmps - vs.length) undef) [] [.code c]:=by
  simp[Frame.enter,fr,Y,hb,base];rfl
 rw[he];refine h Q K cs Z _ ⟨by simp;omega,λt v ac=>?_⟩;let⟨_,O⟩:=KY ac;have ag:t<vs.length:=by
  rcases jH t vs.length with U | U;exact U;simp at O;have:=(d7.1 O).1;omega
 rw[j8,s0 (by simpa using ag)];simp at O;simp[O]
end
variable {E':LH}{B0:List (Nat×Obj)}
variable{blk:List (Nat×Obj)}
section
variable {b:Frame}{n:Nat}
theorem WB(O:s.q=false)(h:(∃w,Fits s w)->JL J Q b n L ds k cs s):JL J Q b n L ds k cs s:=λT U=>by
 by_cases K:∃w,Fits s w;exact h K T U;exact J.step ⟨V,λw f=>absurd ⟨w,f⟩ K,λe=>by subst e;cases O⟩
theorem Ux{x:Nat}:∀{B:List (Nat×Obj)},(∃p∈B,p.1=x)->By B H x≠none
 | [],⟨p,K,_⟩=>by cases K
 | (c,o)::B,⟨p,K,e⟩=>by
  simp only[By]
  split;simp;rename_i O;rcases iC.1 K with q | q;subst q;exact absurd e.symm O;exact Ux ⟨p,q,e⟩
theorem Nd.grow(U:Nd E H B)(hd:∀x,E' x≠none->By B H x=none):Nd E' H B:=by
 have key:∀{C:List (Nat×Obj)},Nd E H C->(∀p∈C,p∈B)->Nd E' H C:=by
  intro C
  induction C with
  | nil=>intro _ _;trivial
  | cons p C Y=>
   obtain⟨c,o⟩:=p;intro hC O;refine⟨?_,hC.2.1,hC.2.2.1,Y hC.2.2.2 λp K=>O p (f4 _ K)⟩;cases Z:E' c with
   | none=>rfl
   | some u=>exact absurd (hd c (by rw[Z];simp)) (Ux ⟨(c,o),O _ (by simp),rfl⟩)
 exact key U λp K=>K
def Rb(E:LH)(K:Nat)(v:Value)(n:Nat)(xs:Lv_):Prop:=
 ∃a c,v=.slice a n c/\n<=c/\xs.length=n*K/\(n=0∨∃bk off f e fr,a=some ⟨bk,off,none⟩/\E bk=some (.cells f e fr)/\∀j w,xs[j]?=some w->f[off+j]?=some w)
theorem Rb.nil:Rb E K (.slice none 0 0) 0 []:=⟨none,0,V,rJ _,by simp,.inl V⟩
def GS(e:TypeId)(K:Nat)(a:Option Addr)(l c:Nat)(blk:List (Nat×Obj))(xs:Lv_):Prop:=
 (a=none/\l=0/\c=0/\blk=[]/\xs=[])∨∃bk f,a=some ⟨bk,0,none⟩/\blk=[(bk,.cells f e (0,0))]/\f.size=c*K/\l<=c/\xs=f.toList.take (l*K)
theorem GS.nil{e:TypeId}:GS e K none 0 0 [] []:=.inl ⟨V,V,V,V,V⟩
theorem GS.length{e:TypeId}{a:Option Addr}{c:Nat}(h:GS e K a l c blk xs):xs.length=l*K:=by
 rcases h with⟨_,rfl,_,_,rfl⟩ | ⟨bk,f,_,_,O,U,rfl⟩;simp;have:l*K<=c*K:=sH _ U;simp[O,tN this]
theorem YX{t e:TypeId}{v:Value}{Q:Value->St->Prop}{z:Value}(O:P.underlying t=some (.slice e))(U:BB P e=some v.cells.size)(Y:zeroOf P e=some z)(am:z.cells.size=v.cells.size)(ap:0<v.cells.size)(aq:v.cells.size<=64)
  (Z:Nd E H B) (k:∀r,Nd E H (B++ [(r,.cells v.cells e (0,0))])->Q (.slice (some ⟨r,0,none⟩) 1 1) (mk E H (B++ [(r,.cells v.cells e (0,0))]))):lp P (Instr.buildSlice t 1 #[(0,v)]) (mk E H B) Q X:=by
 unfold Instr.buildSlice;refine Ay _ _ (Cy O ?_);refine Ay _ _ (FC U ?_);rw[d0 (by omega),d0 (by omega)];refine Ay (x:=zeroValue e) _ (IB Y ?_);have ac:Instr.fill (λi=>some (i*v.cells.size,v.cells.size)) ((Array.range (1*v.cells.size)).map λi=>z.cells[i%z.cells.size]!) [(0,v)]=some v.cells:=by
  simp only[Instr.fill,Array.size_map,Array.size_range,Nat.one_mul,tY];rw[d0 (by simp)];congr 1;apply sK;intro j;have key:∀(l:Lv_) (st:Nat) (c:Av_),st+l.length<=c.size->∀j,(List.foldl (λcs (p:Value×Nat)=>cs.setIfInBounds (0+p.2) p.1) c (l.zipIdx st))[j]?=if st<=j/\j<st+l.length then l[j - st]? else c[j]? :=by
   intro l
   induction l with
   | nil=>intro st c _ j;simp;omega
   | cons x l ag=>
    intro st c av j;simp only[vE,tq,r4] at*;rw[ag (st+1) _ (by simp;omega) j];simp only[tx];by_cases al:j=st;subst al;rw[d0 (by omega),d6 (by omega)];rw[uM,s3,rR (by omega)]
    .by_cases e2:st+1<=j/\j<st+1+l.length
     .rw [d6 e2,d6 (by omega)];have:j - st=(j - (st+1))+1:=by omega
      rw[this];simp
     .rw [d0 e2,d0 (by omega),mt (by omega)]
  have:=key v.cells.toList 0 ((Array.range v.cells.size).map λi=>z.cells[i%z.cells.size]!) (by simp) j;rw[← Array.foldl_toList,Array.toList_zipIdx,this];by_cases K:j<v.cells.size;simp[K];simp[K]
 rw[I6];simp only[ac];exact Ay _ _ (Kp Z k)
end
variable{d1:Tmp}{t1:TypeId}
section
variable {b:Frame}{n:Nat}
theorem ND{ρ:Operand->Value}{d:Option Tmp}{x y:Operand}{ty:TypeId}{p:String}{af:Ae_}{g:On_}:
  execOp ρ ⟨d,.call ⟨.builtin .append,#[x,y],ats⟩,ty,p,af,g⟩=(do pure (Next.value (← Builtin.append_ ats ty #[ρ x,ρ y]))):=by
 simp[execOp,resolve,invoke,builtin,bind,Sem.bind,pure]
theorem Y4{ρ:Operand->Value}{d:Option Tmp}{y:Operand}{t ty:TypeId}{p:String}{af:Ae_}{g:On_}:
  execOp ρ ⟨d,.buildSlice t 1 #[(0,y)],ty,p,af,g⟩=(do pure (Next.value (← Instr.buildSlice t 1 #[(0,ρ y)]))):=by
 simp[execOp]
theorem jA{L:Env}{w:Value}:ev (AA L (some d1) w) (.tmp d1)=some w:=by
 simp[AA,ev,look]
theorem JW(l r:List α)(x y:α):(l++x::r).set l.length y=l++y::r:=by simp
theorem LQ{e t:TypeId}{id aq c m:Nat}{a:Option Addr}{i:Nat}{rest:List Nat}{d:Option Tmp}{x y:Operand}{ty:TypeId}{p:String}{af:Ae_}{g:On_}{z:Value}{B1:List (Nat×Obj)}
  (a5:ops[i]?=some ⟨d,.call ⟨.builtin .append,#[x,y],ats⟩,ty,p,af,g⟩) (hw:A2 L ops ⟨d,.call ⟨.builtin .append,#[x,y],ats⟩,ty,p,af,g⟩=some true) (a6:BZ b n ⟨d,.call ⟨.builtin .append,#[x,y],ats⟩,ty,p,af,g⟩=true)
  (a7:ev L x=some (.slice a l c)) (a8:ev L y=some (.slice ax m cx)) (a9:ats[0]?=some t) (bb:ats[1]?=some t1) (be:P.underlying t=some (.slice e)) (bi:P.underlying t1=some (.slice e)) (bn:BB P e=some id) (hb:Gs P e=some aq) (bo:zeroOf P e=some z) (bv:z.cells.size=id)
  (bw:0<aq) (bx:aq<=64) (cc:0<m) (bz:l+m<=2^40) (b0:∀w∈ys,C5 w=true) (av:GS e id a l c blk xs) (b1:Nd E H (B0++blk++B1)) (b2:IK (mk E H (B0++blk++B1)) (.slice ax m cx) id ys)
  (h:∀a3 ag aw,GS e id a3 (l+m) ag aw (xs++ys)->Nd E H (B0++aw)->JL J Q b n (AA L d (.slice a3 (l+m) ag)) ds (.inRegion ops rest::k) cs (mk E H (B0++aw))):
  JL J Q b n L ds (.inRegion ops (i::rest)::k) cs (mk E H (B0++blk++B1)):=by
 refine JL.op a5 hw a6 λρ a4=>?_;rw[ND,a4 x _ a7,a4 y _ a8];have b3:QE (B0++blk++B1) B0.length e id a l c xs:=by
  rcases av with⟨O,ac,al,ay,am⟩ | ⟨bk,f,O,ac,al,ay,am⟩;exact .inl ⟨O,ac,al,am⟩;refine .inr ⟨bk,f,O,?_,al,ay,am⟩;subst ac;simp
 have hlen:=av.length;refine Ay _ _ (RN (pl:=B0.length) a9 bb bi be bn hb bo bv b1 b3 b2 b0 bw bz bx ?_ ?_ ?_)
 ·
  intro bk f K ap ce ci b4 az a0 Z;rcases av with⟨O,_⟩ | ⟨U,f0,O,ac,al,ay,am⟩;rw[O] at ap;cases ap
  .subst ac;have b5:U=bk:=by rw[O] at ap;simpa using ap
   subst b5;have b6:(B0++ [(U,Obj.cells f0 e (0,0))]++B1).set B0.length (U,.cells K e (0,0))=B0++ [(U,.cells K e (0,0))]++B1:=by
    rw[sb,sb];exact JW _ _ _ _
   rw[b6] at Z ⊢;have a1:Nd E H (B0++ [(U,.cells K e (0,0))]):=Nd.left Z;refine JL.drop (B0++ [(U,.cells K e (0,0))]) (λp a2=>?_) Z (h a c _ (.inr ⟨U,K,O,V,az,b4,a0.symm⟩) a1);exact so.1 (sD _ a2)
 .intro _ hm;omega
 ·
  intro r K ag ca az a0 Z;have a1:Nd E H (B0++ [(r,.cells K e (0,0))]):=Nd.pick Z;refine JL.drop (B0++ [(r,.cells K e (0,0))]) (λp a2=>?_) Z (h (some ⟨r,0,none⟩) ag _ (.inr ⟨r,K,V,V,az,ca,a0.symm⟩) a1);refine so.1 ?_;rcases kO.1 a2 with q | q;simp[q];exact sc _ q
 where
  Nd.left {E H : LH}{A C : List (Nat × Obj)}(h : Nd E H (A ++ C)) : Nd E H A :=by
    induction A with
    | nil =>trivial
    | cons p A ih =>
      obtain ⟨c, o⟩ :=p
      obtain ⟨h1, h2, h3, h4⟩ :=h
      exact ⟨h1, h2, λq hq =>h3 q (sD _ hq), ih h4⟩
  Nd.pick {E H : LH}{A C F : List (Nat × Obj)}{x : Nat × Obj}(h : Nd E H (A ++ C ++ F ++ [x])) : Nd E H (A ++ [x]) :=by
    induction A with
    | nil =>
      have : ∀ (D : List (Nat × Obj)), Nd E H (D ++ [x]) -> Nd E H [x] :=by
        intro D
        induction D with
        | nil =>exact λh =>h
        | cons p D ih =>obtain ⟨c, o⟩ :=p; exact λh =>ih h.2.2.2
      exact this _ h
    | cons p A ih =>
      obtain ⟨c, o⟩ :=p
      obtain ⟨h1, h2, h3, h4⟩ :=h
      refine ⟨h1, h2, λq hq =>h3 q ?_, ih h4⟩
      rcases kO.1 hq with hq | hq
      . simp[hq]
      . exact sc _ hq
theorem ak{e:TypeId}{v:Value}{A:List (Nat×Obj)}(O:v.cells.size=K)(U:Nd E H (A++ [(r,.cells v.cells e (0,0))])):
  IK (mk E H (A++ [(r,.cells v.cells e (0,0))])) (.slice (some ⟨r,0,none⟩) 1 1) K v.cells.toList:=by
 refine⟨.inl V,by simp[O],rJ _,λj w Y=>?_⟩;simp only[tx];refine V4 (i:=A.length) U (c:=v.cells) (e:=e) (f:=(0,0)) (by simp) ?_;simpa using Y
theorem ZD{e t t2:TypeId}{id c:Nat}{a:Option Addr}{i al:Nat}{rest:List Nat}{d:Option Tmp}{x y:Operand}{ty U:TypeId}{p Y:String}{af Z:Ae_}{g g':On_}{z v:Value}
  (az:ops[i]?=some ⟨some d1,.buildSlice t2 1 #[(0,y)],U,Y,Z,g'⟩) (hw:A2 L ops ⟨some d1,.buildSlice t2 1 #[(0,y)],U,Y,Z,g'⟩=some true) (a0:BZ b n ⟨some d1,.buildSlice t2 1 #[(0,y)],U,Y,Z,g'⟩=true)
  (a1:ops[al]?=some ⟨d,.call ⟨.builtin .append,#[x,.tmp d1],ats⟩,ty,p,af,g⟩) (a2:∀w,A2 (AA L (some d1) w) ops ⟨d,.call ⟨.builtin .append,#[x,.tmp d1],ats⟩,ty,p,af,g⟩=some true) (a3:BZ b n ⟨d,.call ⟨.builtin .append,#[x,.tmp d1],ats⟩,ty,p,af,g⟩=true)
  (a4:∀w,ev (AA L (some d1) w) x=some (.slice a l c)) (a5:ev L y=some v) (a6:ats[0]?=some t) (a7:ats[1]?=some t1) (a8:P.underlying t=some (.slice e)) (a9:P.underlying t1=some (.slice e)) (bb:P.underlying t2=some (.slice e)) (am:BB P e=some K) (hb:Gs P e=some id) (ap:zeroOf P e=some z) (aq:z.cells.size=K)
  (be:0<id) (bi:id<=64) (ac:v.cells.size=K) (bz:0<K) (b0:K<=64) (bn:l+1<=2^40) (bo:∀w∈v.cells.toList,C5 w=true) (bv:GS e K a l c blk xs) (bw:Nd E H (B0++blk))
  (h:∀w av aw ag,GS e K av (l+1) aw ag (xs++v.cells.toList)->Nd E H (B0++ag)->JL J Q b n (AA (AA L (some d1) w) d (.slice av (l+1) aw)) ds (.inRegion ops rest::k) cs (mk E H (B0++ag))):
  JL J Q b n L ds (.inRegion ops (i::al::rest)::k) cs (mk E H (B0++blk)):=by
 refine JL.op az hw a0 λρ bx=>?_;rw[Y4,bx y _ a5];refine Ay _ _ (YX (z:=z) (v:=v) bb (by rw[ac];exact am) ap (by rw[ac];exact aq) (by omega) (by omega) bw λr ay=>?_);refine LQ (B1:=[(r,.cells v.cells e (0,0))]) (m:=1) (cx:=1) (ax:=some ⟨r,0,none⟩) (y:=.tmp d1) (x:=x) (ys:=v.cells.toList) (l:=l) (c:=c) (a:=a) (blk:=blk) (xs:=xs) a1 (a2 _) a3 (a4 _) jA a6 a7 a8 a9 am hb ap aq be bi (by omega) bn bo bv ay ?_ (h _);exact ak ac ay
theorem Zi{e:TypeId}{c:Nat}{a:Option Addr}(ac:GS e K a l c blk xs)(U:Nd E H (B0++blk))
  (h:∀E',Le E E'->Rb E' K (.slice a l c) l xs->Nd E' H B0->JL J Q b n L ds todo cs (mk E' H B0)):JL J Q b n L ds todo cs (mk E H (B0++blk)):=by
 rcases ac with⟨rfl,rfl,rfl,rfl,rfl⟩ | ⟨bk,f,rfl,rfl,ag,Y,rfl⟩;simp only[r9] at U ⊢;exact h E (Le.refl _) .nil U
 .have al:(B0++ [(bk,Obj.cells f e (0,0))])[B0.length]?=some (bk,Obj.cells f e (0,0)):=by simp
  refine JL.freeze B0.length U al λE' hle am Z=>?_;have ap:(B0++ [(bk,Obj.cells f e (0,0))]).eraseIdx B0.length=B0:=by rw[tD (rJ _)];simp
  rw[ap] at Z ⊢;refine h E' hle ⟨_,c,V,Y,?_,.inr ⟨bk,0,f,e,(0,0),V,am,λj w O=>?_⟩⟩ Z;have:l*K<=c*K:=sH _ Y;simp[ag,tN this];rw[ta] at O;split at O;simpa using O;cases O
end
abbrev iV(n:Int):Value:=.int .i64 n
variable {c:Nat}
section
variable {x:Operand}{a:Nat}
end
theorem SH{P:Program}{t:TypeId}{K:TypeInfo}(h:P.types[t]?=some K):P.info? t=some K:=by
 have:=(f8.1 h).1;unfold Tables.info?;rw[d6 this,h]
theorem A0{P:Program}{t:TypeId}{K:TypeInfo}(h:P.types[t]?=some K):BB P t=some K.size:=by simp[BB,SH h]
theorem Dc{P:Program}{t:TypeId}{K:TypeInfo}(h:P.types[t]?=some K):Gs P t=some K.bytes:=by simp[Gs,SH h]
theorem Dw{P:Program}{t:TypeId}{K:TypeInfo}(h:P.types[t]?=some K):zeroOf P t=K.zero:=by simp[zeroOf,SH h]
def jX:TypeDesc->Bool | .struct _=>true | .array _ _=>true | _=>false
theorem CK{P:Program}{t:TypeId}{d:TypeDesc}(h:P.underlying t=some d):DY P t=some (jX d):=by
 unfold DY;rw[h];cases d<;>rfl
theorem A4{P:Program}{f:FuncId}(h:P.funcs[f]?=some fn)(hb:(!(fn.name== "runtime.NumGoroutine")&&fn.body.isSome)=true):El P f=true:=by
 simp only[El,h];exact hb
def XX(a:Nat):Nat->List Nat
 | 0=>[]
 | n+1=>XX a n++(if a.testBit n then [n] else [])
abbrev YA(a:Nat):List Nat:=XX a 16
end Pal
namespace Pal
open Go Go.Conc
def At(E:LH)(bk o:Nat)(ws:Lv_):Prop:=∃f e fr,E bk=some (.cells f e fr)/\∀j w,ws[j]?=some w->f[o+j]?=some w
theorem At.M{E E':LH}{bk o:Nat}{ws:Lv_}(h:At E bk o ws)(hle:Le E E'):At E' bk o ws:=let ⟨f,e,fr,K,O⟩:=h;⟨f,e,fr,hle _ _ K,O⟩
variable{j:Nat}{w:Value}
theorem At.cell{E H:LH}{B:List (Nat×Obj)}{bk o:Nat}{ws:Lv_}(h:At E bk o ws)(K:ws[j]?=some w):(mk E H B).cell? ⟨bk,o+j,none⟩=some w:=
 let ⟨_,_,_,O,U⟩:=h;aT O (U j w K)
theorem At.cells{E H:LH}{B:List (Nat×Obj)}{bk o:Nat}{ws:Lv_}(h:At E bk o ws):∀j v,ws[j]?=some v->(mk E H B).cell? (Addr.add ⟨bk,o,none⟩ j)=some v:=λj v K=>by
 rw[Et rfl];exact h.cell K
variable {P:Program}{J:Judge P}{Q:Gs_}{ds:Ld_}{ops:Ao_}{k:Li_}{cs:Lf_}{L:Env}{s:St}{E E' H:LH}{B B0:List (Nat×Obj)}
variable {d:Option Tmp}{y:Operand}{t u ty e:TypeId}{p:String}{af:Ae_}{g:On_}{rest:List Nat}{kd:IntKind}
section
variable {b:Frame}{n:Nat}
variable {x:Operand}{v:Value}{i:Nat}
theorem JL.put(h:look L i=some v)(O:JL J Q b n (AA L (some i) v) ds k cs s):JL J Q b n L ds k cs s:=λT K=>
 O T ⟨K.size,λt w e=>by
  simp only[AA,look] at e
  split at e;rename_i U;subst U;cases e;exact K.at_ _ _ h
  .exact K.at_ _ _ e⟩
theorem NJ{q:Prop} [Decidable q] (h:look L i=some (.bool (decide q)))(O:q->JL J Q b n (AA L (some i) (.bool true)) ds k cs s)(U:¬q->JL J Q b n (AA L (some i) (.bool false)) ds k cs s):JL J Q b n L ds k cs s:=by
 by_cases K:q;refine JL.put (i:=i) (v:=.bool true) ?_ (O K);rw[h,sL K];refine JL.put (i:=i) (v:=.bool false) ?_ (U K);rw[h,sz K]
theorem LR{c:Bool}(h:look L i=some (.bool c))(K:c=true->JL J Q b n (AA L (some i) (.bool true)) ds k cs s)(O:c=false->JL J Q b n (AA L (some i) (.bool false)) ds k cs s):JL J Q b n L ds k cs s:=by
 cases c;exact JL.put h (O V);exact JL.put h (K V)
end
theorem Hk{P:Program}{s:St}{ρ:Operand->Value}{d:Option Tmp}{t ty ft:TypeId}{x:Operand}{p:String}{af:Ae_}{g:On_}{a:Addr}{O:Array Field}{i:Nat}{K:Field}(U off:Nat)(Y:P.underlying t=some (.struct O))(Z:BB P ft=some (U+1))(hi:O[i]?=some K)(ac:K.type=ft)(ag:K.offset=off)(al:ρ x=.pointer (some a)):
  Yl P ⟨d,.fieldAddr t x i,ty,p,af,g⟩ ρ s (.pointer (some (a.add off))):=by
 subst ac ag;exact Yl.fieldAddr Y hi Z al
section
variable {b:Frame}{n:Nat}
variable {x:Operand}{v:Value}{i:Nat}
theorem At.J5{bk o:Nat}{ws:Lv_}(h:At E bk o ws)(K:∀x o,E x=some o->s.E x=some o)(O:ws[j]?=some w):s.cell? ⟨bk,o+j,none⟩=some w:=by
 obtain⟨f,e,fr,U,Y⟩:=h;unfold St.cell? St.get;rw[K _ _ U];exact Y j w O
theorem At.Tg{bk o:Nat}{ws:Lv_}(h:At E bk o ws)(K:∀x o,E x=some o->s.E x=some o):∀j v,ws[j]?=some v->s.cell? (Addr.add ⟨bk,o,none⟩ j)=some v:=λj v O=>by
 rw[Et rfl];exact h.J5 K O
end
variable {listed:Array Bool}
section
variable {b:Frame}{n m fuel:Nat}
variable {x:Operand}{v:Value}{i:Nat}
end
variable {D:Nat->Bool}
section
variable {b:Frame}{n m fuel i:Nat}{v:Value}
theorem A3.put(h:look L i=some v)(O:A3 J Q b n ds ops k cs m D fuel listed (AA L (some i) v) s):A3 J Q b n ds ops k cs m D fuel listed L s:=λT K=>
 O T ⟨K.size,λt w e=>by
  simp only[AA,look] at e
  split at e;rename_i U;subst U;cases e;exact K.at_ _ _ h
  .exact K.at_ _ _ e⟩
theorem GC{q:Prop} [Decidable q] (h:look L i=some (.bool (decide q)))(O:q->A3 J Q b n ds ops k cs m D fuel listed (AA L (some i) (.bool true)) s)(U:¬q->A3 J Q b n ds ops k cs m D fuel listed (AA L (some i) (.bool false)) s):A3 J Q b n ds ops k cs m D fuel listed L s:=by
 by_cases K:q;refine A3.put (i:=i) (v:=.bool true) ?_ (O K);rw[h,sL K];refine A3.put (i:=i) (v:=.bool false) ?_ (U K);rw[h,sz K]
end
structure Rp (α:Type) where
 n:Nat
 r:LH->Lv_->α->Prop
 M:∀{E E':LH}{ws:Lv_}{x:α},Le E E'->r E ws x->r E' ws x
 len:∀{E:LH}{ws:Lv_}{x:α},r E ws x->ws.length=n
 one:∀{E:LH}{ws:Lv_}{x:α},r E ws x->∀w∈ws,C5 w=true
def rK(kd:IntKind):Rp Int:=⟨1,λ_ ws x=>ws=[.int kd x],λ_ h=>h,λh=>by subst h;rfl,λh w hw=>by subst h;simp at hw;subst hw;rfl⟩
abbrev rI:Rp Int:=rK .i64
def rN(kd:IntKind):Rp Nat:=⟨1,λ_ ws x=>ws=[.int kd ((x:Nat):Int)],λ_ h=>h,λh=>by subst h;rfl,λh w hw=>by subst h;simp at hw;subst hw;rfl⟩
def rB:Rp Bool:=⟨1,λ_ ws x=>ws=[.bool x],λ_ h=>h,λh=>by subst h;rfl,λh w hw=>by subst h;simp at hw;subst hw;rfl⟩
def rP{α β:Type}(p:Rp α)(q:Rp β):Rp (α×β):=⟨p.n+q.n,λE ws x=>∃U Y,ws=U++Y/\p.r E U x.1/\q.r E Y x.2,
 λhle ⟨a,b,h,K,O⟩=>⟨a,b,h,p.M hle K,q.M hle O⟩,λ⟨a,b,h,K,O⟩=>by subst h;rw[rS,p.len K,q.len O],
 λ⟨a,b,h,K,O⟩ w hw=>by
  subst h
  rcases kO.1 hw with hw | hw
  .exact p.one K w hw
  .exact q.one O w hw⟩
def Ao{α:Type}(p:Rp α)(E:LH)(a:Option Addr)(c:Nat)(xs:List α):Prop:=
 xs.length<=c/\((xs=[]/\∀ad:Addr,a=some ad->ad.spot=none∨c=0)∨∃bk off,a=some ⟨bk,off,none⟩/\∀(i:Nat) x,xs[i]?=some x->∃ws,p.r E ws x/\At E bk (off+i*p.n) ws)
variable{α:Type}{c:Nat}
theorem Ao.M{p:Rp α}{E E':LH}{a:Option Addr}{xs:List α}(h:Ao p E a c xs)(hle:Le E E'):Ao p E' a c xs:=
 ⟨h.1,h.2.imp id λ⟨bk,off,K,O⟩=>⟨bk,off,K,λi x U=>let ⟨ws,Y,Z⟩:=O i x U;⟨ws,p.M hle Y,Z.M hle⟩⟩⟩
theorem Ao.nil{p:Rp α}{E:LH}:Ao p E none c []:=⟨sC _,.inl ⟨V,λ_ h=>by cases h⟩⟩
def rL{α:Type}(p:Rp α):Rp (List α):=⟨1,λE ws xs=>∃a c,ws=[.slice a xs.length c]/\Ao p E a c xs,
 λhle ⟨a,c,h,K⟩=>⟨a,c,h,K.M hle⟩,λ⟨a,c,h,K⟩=>by subst h;rfl,λ⟨a,c,h,K⟩ w hw=>by subst h;simp at hw;subst hw;rfl⟩
def rV:Rp Value:=⟨1,λ_ ws x=>ws=[x]/\C5 x=true,λ_ h=>h,λh=>by rw[h.1];rfl,λh w hw=>by rw[h.1] at hw;simp at hw;subst hw;exact h.2⟩
def rA{α:Type}(k:Nat)(p:Rp α):Rp (List α):=⟨k*p.n,λE ws xs=>xs.length=k/\∃wss:List (Lv_),ws=wss.flatten/\wss.length=k/\∀(i:Nat) x us,xs[i]?=some x->wss[i]?=some us->p.r E us x,
 λhle ⟨U,wss,h,K,O⟩=>⟨U,wss,h,K,λi x us a b=>p.M hle (O i x us a b)⟩,
 λ{E ws xs} ⟨U,wss,h,K,O⟩=>by
  subst h
  have:∀(wss:List (Lv_)) (xs:List α),xs.length=wss.length->(∀(i:Nat) x us,xs[i]?=some x->wss[i]?=some us->p.r E us x)->wss.flatten.length=wss.length*p.n:=by
   intro wss
   induction wss with
   | nil=>intro xs _ _;simp
   | cons us wss Z=>
    intro xs Y h
    cases xs with
    | nil=>simp at Y
    | cons x xs=>
     rw[su,rS,p.len (h 0 x us rfl rfl),Z xs (by simpa using Y) (λi y u a b=>h (i+1) y u a b),r4,sT,vF]
  rw[this wss xs (by omega) O,K],
 λ{E ws xs} ⟨U,wss,h,K,O⟩ w hw=>by
  subst h
  let⟨us,ac,hw⟩:=tV.1 hw
  let⟨i,hi⟩:=so.1 ac
  have ag:i<xs.length:=by rw[U,← K];exact(d7.1 hi).1
  exact p.one (O i _ us (cT ag) hi) w hw⟩
def ix{α:Type}(xs:List α)(i:Int):Option α:=if 0<=i then xs[i.toNat]? else none
theorem F7{xs:List α}{i:Int}{x:α}(h:ix xs i=some x):∃m:Nat,i=m/\xs[m]?=some x:=by
 unfold ix at h;split at h;exact⟨i.toNat,by omega,h⟩;cases h
def Au(x:Int):Option Int:=if -9223372036854775808<=x/\x<=9223372036854775807 then some x else none
theorem MJ{x y:Int}(h:Au x=some y):y=x/\ -9223372036854775808<=x/\x<=9223372036854775807:=by
 unfold Au at h;split at h;rename_i hb;exact⟨(f6 h).symm,hb⟩;cases h
variable{β:Type}
theorem bind_some{o:Option α}{f:α->Option β}{r:β}(h:o.bind f=some r):∃x,o=some x/\f x=some r:=by
 cases o with
 | none=>cases h
 | some x=>exact⟨x,rfl,h⟩
inductive Bm (S A:Type) where
 | more (s:S)
 | done (a:A)
def iter{S A:Type}(body:S->Option (Bm S A)):Nat->S->Option A
 | 0,_=>none
 | f+1,s=>match body s with
  | none=>none
  | some (.done a)=>some a
  | some (.more s')=>iter body f s'
theorem UP{S:Type}{body:S->Option (Bm S β)}{f:Nat}{s:S}{a:β}(h:iter body (f+1) s=some a):∃st,body s=some st:=by
 simp only[iter] at h;cases hb:body s with
 | none=>rw[hb] at h;cases h
 | some st=>exact⟨st,rfl⟩
theorem U7{S:Type}{body:S->Option (Bm S β)}{f:Nat}{s:S}{a K:β}(h:iter body (f+1) s=some a)(hb:body s=some (.done K)):K=a:=by
 simp only[iter,hb] at h;exact f6 h
theorem U2{S:Type}{body:S->Option (Bm S β)}{f:Nat}{s s':S}{a:β}(h:iter body (f+1) s=some a)(hb:body s=some (.more s')):iter body f s'=some a:=by
 simp only[iter,hb] at h;exact h
abbrev Seg:=List (Nat×Obj)
def Ak(E H:LH)(S:List Seg):St:=mk E H S.flatten
def Av(E H:LH)(S:List Seg):Prop:=Nd E H S.flatten
theorem Nd.mem{E H:LH}:∀{B:List (Nat×Obj)}{b:Nat}{o:Obj},Nd E H B->(b,o)∈B->∃i:Nat,B[i]?=some (b,o):=λ_ h=>so.1 h
theorem Nd.iff{E H:LH}:∀{B:List (Nat×Obj)},Nd E H B↔(B.map (·.1)).Nodup/\∀p∈B,E p.1=none/\H p.1=none
 | []=>by simp[Nd]
 | (b,o)::B=>by
  simp only[Nd,sN,un,iC,forall_eq_or_imp,Nd.iff (B:=B),sj,not_exists,not_and]
  constructor;rintro⟨K,O,U,Y,Z⟩;exact⟨⟨U,Y⟩,⟨K,O⟩,Z⟩;rintro⟨⟨U,Y⟩,⟨K,O⟩,Z⟩;exact⟨K,O,U,Y,Z⟩
variable{A:List (Nat×Obj)}
theorem Nd.perm{E H:LH}{B:List (Nat×Obj)}(h:Nd E H B)(K:B.Perm A):Nd E H A:=by
 rw[Nd.iff] at h ⊢;exact⟨(K.map _).nodup_iff.1 h.1,λp O=>h.2 p (K.mem_iff.2 O)⟩
theorem Us{E H:LH}{B:List (Nat×Obj)}(h:Nd E H B)(K:B.Perm A):By B H=By A H:=by
 funext x;by_cases O:∃p∈B,p.1=x;obtain⟨⟨b,o⟩,hm,rfl⟩:=O;let⟨i,hi⟩:=h.mem hm;let⟨j,U⟩:=(h.perm K).mem (K.mem_iff.1 hm);rw[Ks h hi,Ks (h.perm K) U]
 .have key:∀{C:List (Nat×Obj)},(∀p∈C,p.1≠x)->By C H x=H x:=by
   intro C
   induction C with
   | nil=>intro _;rfl
   | cons p C Y=>
    intro hC;obtain⟨c,u⟩:=p;have Z:x≠c:=λe=>hC (c,u) (by simp) e.symm;simp only[By,d0 Z];exact Y λp K=>hC p (f4 _ K)
  rw[key λp K e=>O ⟨p,K,e⟩,key λp ac e=>O ⟨p,K.mem_iff.2 ac,e⟩]
theorem FK{E H:LH}{B:List (Nat×Obj)}(h:Nd E H B)(K:B.Perm A):mk E H B=mk E H A:=by unfold mk;rw[Us h K]
variable{seg seg':Seg}
theorem EU{S:List Seg}(h:S[j]?=some seg):S.flatten.Perm ((S.set j []).flatten++seg)/\(S.set j seg').flatten.Perm ((S.set j []).flatten++seg'):=by
 induction S generalizing j with
 | nil=>simp at h
 | cons x S K=>
  cases j with
  | zero=>
   simp at h;subst h;simp only[ul,su,sP];exact⟨r0,r0⟩
  | succ j=>
   simp at h;let⟨O,U⟩:=K h;simp only[uI,su,sb];exact⟨O.append_left x,U.append_left x⟩
theorem HB{E H:LH}{S:List Seg}(K:Av E H S)(h:S[j]?=some seg):Ak E H S=mk E H ((S.set j []).flatten++seg)/\Nd E H ((S.set j []).flatten++seg):=
 ⟨FK K (EU (seg':=seg) h).1,Nd.perm K (EU (seg':=seg) h).1⟩
theorem J3{E H:LH}{S:List Seg}(h:S[j]?=some seg)(K:Nd E H ((S.set j []).flatten++seg')):mk E H ((S.set j []).flatten++seg')=Ak E H (S.set j seg')/\Av E H (S.set j seg'):=
 ⟨FK K (EU h).2.symm,Nd.perm K (EU h).2.symm⟩
theorem Hz(S:List Seg)(seg:Seg):(S++ [seg]).flatten=S.flatten++seg:=by simp
theorem F6{E H:LH}{S:List Seg}(K:Nd E H (S.flatten++seg)):mk E H (S.flatten++seg)=Ak E H (S++ [seg])/\Av E H (S++ [seg]):=by
 unfold Ak Av;rw[Hz];exact⟨V,K⟩
theorem Ed{E H:LH}{S:List Seg}{i bk:Nat}{o:Obj}(K:Av E H S)(O:S[j]?=some seg)(hi:seg[i]?=some (bk,o)):(Ak E H S).get bk=some o:=by
 have hm:(bk,o)∈S.flatten:=tV.2 ⟨seg,r7 O,r7 hi⟩;let⟨Y,U⟩:=K.mem hm;exact RE K U
variable{off:Nat}
theorem B8{E H:LH}{S:List Seg}{bk:Nat}{c:Av_}{e:TypeId}{f:Nat×Nat}{v:Value}(K:Av E H S)(O:S[j]?=some ((bk,.cells c e f)::seg))(U:c[off]?=some v):(Ak E H S).cell? ⟨bk,off,none⟩=some v:=by
 unfold St.cell?;rw[Ed (i:=0) K O rfl];exact U
theorem ZN{E H:LH}{S:List Seg}{bk:Nat}{c:Av_}{e:TypeId}{f:Nat×Nat}{vs:Lv_}(K:Av E H S)(O:S[j]?=some ((bk,.cells c e f)::seg))(U:∀i v,vs[i]?=some v->c[off+i]?=some v):∀i v,vs[i]?=some v->(Ak E H S).cell? (Addr.add ⟨bk,off,none⟩ i)=some v:=λi v hi=>by
 rw[Et rfl];exact B8 K O (U i v hi)
def OL{α:Type}(e:TypeId)(p:Rp α)(E:LH)(a:Option Addr)(c:Nat)(seg:Seg)(xs:List α):Prop:=
 ∃wss:List (Lv_),GS e p.n a xs.length c seg wss.flatten/\wss.length=xs.length/\∀(i:Nat) x ws,xs[i]?=some x->wss[i]?=some ws->p.r E ws x
theorem OL.M{e:TypeId}{p:Rp α}{E E':LH}{a:Option Addr}{xs:List α}(h:OL e p E a c seg xs)(hle:Le E E'):OL e p E' a c seg xs:=
 let ⟨wss,K,O,U⟩:=h;⟨wss,K,O,λi x ws Y hw=>p.M hle (U i x ws Y hw)⟩
theorem OL.nil{e:TypeId}{p:Rp α}{E:LH}:OL e p E none 0 [] []:=⟨[],GS.nil,V,λi x ws K=>by simp at K⟩
variable{wss:List (Lv_)}
theorem Je{p:Rp α}{E:LH}{xs:List α}(K:wss.length=xs.length)(h:∀(i:Nat) x ws,xs[i]?=some x->wss[i]?=some ws->p.r E ws x):∀ws∈wss,ws.length=p.n:=λws hw=>by
 let⟨i,hi⟩:=so.1 hw
 have O:i<xs.length:=by rw[← K];exact(d7.1 hi).1
 exact p.len (h i _ ws (cT O) hi)
theorem LK{α:Type}{n:Nat}:∀{wss:List (List α)},(∀ws∈wss,ws.length=n)->∀{i:Nat}{ws:List α},wss[i]?=some ws->∀j w,ws[j]?=some w->wss.flatten[i*n+j]?=some w
 | [],_,_,_,h,_,_,_=>by simp at h
 | us::wss,O,0,ws,h,j,w,K=>by
  simp at h;subst h
  have:j<us.length:=(d7.1 K).1
  simp only[su,tY,tx]
  rw[rQ this];exact K
 | us::wss,O,i+1,ws,h,j,w,K=>by
  simp at h
  have hu:us.length=n:=O us (by simp)
  simp only[su]
  rw[no (by rw[hu,sT];omega)]
  have e:(i+1)*n+j - us.length=i*n+j:=by rw[hu,sT];omega
  rw[e];exact LK (λws hw=>O ws (f4 _ hw)) h j w K
variable {ρ:Operand->Value}{z:Operand}{kd':IntKind}{m':Int}
variable{r:Int}{ps:Array (Nat×Operand)}
section
variable {x:Operand}{v:Value}{m:Int}{a b:Nat}
theorem Nn{a:Nat}:IntKind.u64.wrap (a:Int)=((a%2^64:Nat):Int):=by
 simp only[IntKind.wrap,IntKind.bits,IntKind.signed];simp
theorem eY(K:ρ x=.int .u64 (a:Int))(O:ρ y=.int .u64 (b:Int)):Yl P ⟨d,.binOp .add t x y u,ty,p,af,g⟩ ρ s (.int .u64 (((a+b)%2^64:Nat):Int)):=by
 have h:=Yl.add (P:=P) (s:=s) (d:=d) (t:=t) (u:=u) (ty:=ty) (p:=p) (af:=af) (g:=g) K O;rw[show((a:Int)+(b:Int))=((a+b:Nat):Int) by omega,Nn] at h;exact h
theorem Qb(K:ρ x=.int .u64 (a:Int))(O:ρ y=.int .u64 (b:Int)):Yl P ⟨d,.binOp .mul t x y u,ty,p,af,g⟩ ρ s (.int .u64 (((a*b)%2^64:Nat):Int)):=by
 have h:=Yl.mul (P:=P) (s:=s) (d:=d) (t:=t) (u:=u) (ty:=ty) (p:=p) (af:=af) (g:=g) K O;rw[show((a:Int)*(b:Int))=((a*b:Nat):Int) by rw[Int.natCast_mul],Nn] at h;exact h
theorem L3(K:ρ x=.int .u64 (a:Int))(O:ρ y=.int .u64 (b:Int)):Yl P ⟨d,.binOp .xor t x y u,ty,p,af,g⟩ ρ s (.int .u64 (((a ^^^ b)%2^64:Nat):Int)):=by
 have h:=Yl.xor (P:=P) (s:=s) (d:=d) (t:=t) (u:=u) (ty:=ty) (p:=p) (af:=af) (g:=g) K O;have e:(BitVec.ofInt IntKind.u64.bits (a:Int) ^^^ BitVec.ofInt IntKind.u64.bits (b:Int)).toNat=(a ^^^ b)%2^64:=by
  rw[Nat.xor_mod_two_pow];rw[uy,uy];show(BitVec.ofNat 64 a ^^^ BitVec.ofNat 64 b).toNat=_;rw[BitVec.toNat_xor,uN,uN]
 rw[e,Nn,Nat.mod_mod] at h;exact h
theorem eR(K:ρ x=.int .u64 (a:Int))(O:ρ y=.int .u64 (b:Int))(U:b≠0):Yl P ⟨d,.binOp .rem t x y u,ty,p,af,g⟩ ρ s (.int .u64 ((a%b:Nat):Int)):=by
 have h:=Yl.rem (P:=P) (s:=s) (d:=d) (t:=t) (u:=u) (ty:=ty) (p:=p) (af:=af) (g:=g) K O (by omega);rw[show(a:Int).tmod (b:Int)=((a%b:Nat):Int) from rfl] at h;exact h
theorem LX(c:Nat)(K:ρ x=.int .u64 (a:Int))(O:ρ y=.int .u64 (c:Int))(U:c<=64):Yl P ⟨d,.binOp .shr t x y u,ty,p,af,g⟩ ρ s (.int .u64 ((a>>>c:Nat):Int)):=by
 have h:=Yl.shr (P:=P) (s:=s) (d:=d) (t:=t) (u:=u) (ty:=ty) (p:=p) (af:=af) (g:=g) K O (by omega);have e:min (c:Int).toNat IntKind.u64.bits=c:=by simp[IntKind.bits];omega
 rw[e,t8 _ (Int.pow_nonneg (by decide))] at h;have e2:(a:Int)/2^c=((a>>>c:Nat):Int):=by rw[uc,Int.natCast_ediv];rfl
 rw[e2] at h;exact h
def CC(m:Int):Nat:=(m%2^64).toNat
def Ke(a:Nat):Int:=IntKind.i64.wrap (a:Int)
theorem Yl.CC(K:P.underlying t=some (.int .i64))(hu:P.underlying u=some (.int .u64))(O:ρ x=iV m):Yl P ⟨d,.convert t u x,ty,p,af,g⟩ ρ s (.int .u64 ((CC m:Nat):Int)):=by
 have h:=FZ (P:=P) (s:=s) (d:=d) (ty:=ty) (p:=p) (af:=af) (g:=g) K hu O
 have e:IntKind.u64.wrap m=((Pal.CC m:Nat):Int):=by
  unfold Pal.CC;simp only[IntKind.wrap,IntKind.bits,IntKind.signed];simp;omega
 rw[e] at h;exact h
theorem Xj(K:P.underlying t=some (.int .u64))(hu:P.underlying u=some (.int .i64))(O:ρ x=.int .u64 (a:Int)):Yl P ⟨d,.convert t u x,ty,p,af,g⟩ ρ s (iV (Ke a)):=
 FZ (P:=P) (s:=s) (d:=d) (ty:=ty) (p:=p) (af:=af) (g:=g) K hu O
theorem DX(K:ρ x=iV m)(O:ρ y=iV m')(h:Au (m+m')=some r):Yl P ⟨d,.binOp .add t x y u,ty,p,af,g⟩ ρ s (iV r):=by
 obtain⟨rfl,hb⟩:=MJ h;exact gK K O hb
theorem EB(K:ρ x=iV m)(O:ρ y=iV m')(h:Au (m - m')=some r):Yl P ⟨d,.binOp .sub t x y u,ty,p,af,g⟩ ρ s (iV r):=by
 obtain⟨rfl,hb⟩:=MJ h;exact eI K O hb
theorem L6(K:ρ x=iV m)(O:ρ y=iV m')(h:Au (m*m')=some r):Yl P ⟨d,.binOp .mul t x y u,ty,p,af,g⟩ ρ s (iV r):=by
 obtain⟨rfl,hb⟩:=MJ h;exact gC K O hb
theorem H4(K:ρ x=iV m)(h:Au (-m)=some r):Yl P ⟨d,.unOp .neg t x,ty,p,af,g⟩ ρ s (iV r):=by
 obtain⟨rfl,hb⟩:=MJ h;exact eZ K hb
theorem IE(K:ρ x=.int kd m)(O:ρ y=.int kd m'):Yl P ⟨d,.binOp .neq t x y u,ty,p,af,g⟩ ρ s (.bool (decide (m≠m'))):=by
 have h:=Yl.neq (P:=P) (s:=s) (d:=d) (t:=t) (u:=u) (ty:=ty) (p:=p) (af:=af) (g:=g) K O;simpa using h
theorem K3{q:Prop} [Decidable q] (K:ρ x=.bool (decide q)):Yl P ⟨d,.unOp .not t x,ty,p,af,g⟩ ρ s (.bool (decide (¬q))):=by
 have h:=Yl.not (P:=P) (s:=s) (d:=d) (t:=t) (ty:=ty) (p:=p) (af:=af) (g:=g) K;simpa using h
theorem RO:execOp ρ ⟨d,.build t ps,ty,p,af,g⟩=(do pure (Next.value (← Instr.build t (ps.map λ(j,x)=>(j,ρ x))))):=by
 simp only[execOp]
theorem Yl.build{z:Value}{K:Array Field}{vs:List (Nat×Value)}{places:Array (Nat×Nat)}{cells:Av_}(Y:zeroOf P t=some z)(Z:P.underlying t=some (.struct K))(ac:K.toList.mapM (λf=>(BB P f.type).map λn=>(f.offset,n))=some places.toList)
  (ag:ps.toList.map (λ(j,x)=>(j,ρ x))=vs) (al:Instr.fill (places[·]?) z.cells vs=some cells):Yl P ⟨d,.build t ps,ty,p,af,g⟩ ρ s (.agg cells):=by
 refine FY RO ?_;unfold Instr.build;refine Ay (x:=zeroValue t) _ (IB Y ?_);refine Ay _ _ (Cy Z ?_);simp only;have key:∀(l:List Field) (acc:List (Nat×Nat)) {Q:List (Nat×Nat)->St->Prop}{X:Halt->St->Prop}(ps:List (Nat×Nat)),l.mapM (λf=>(BB P f.type).map λn=>(f.offset,n))=some ps->Q (acc.reverse++ps) s->lp P (List.mapM.loop (m:=Sem) (λf=>do pure (f.offset,← Go.sizeOf f.type)) l acc) s Q X:=by
  intro l
  induction l with
  | nil=>
   intro acc Q X ps h k;simp at h;subst h;simp only[r9] at k;exact k
  | cons f l am=>
   intro acc Q X ps h k;simp only[vq,bind] at h;cases O:BB P f.type with
   | none=>rw[O] at h;simp at h
   | some n=>
    rw[O] at h;simp only[sU,Option.bind_some] at h;let⟨ap,aq,U⟩:=bind_some h;simp at U;subst U;have:=am ((f.offset,n)::acc) (Q:=Q) (X:=X) ap aq (by simpa using k);simp only[List.mapM.loop];exact Ay _ _ (Ay (x:=Go.sizeOf f.type) _ (FC O this))
 have e:(ps.map λ(j,x)=>(j,ρ x)).toList=vs:=by rw[← ag,u0]
 refine Ay _ _ ?_;rw[tL];refine Ay (x:=List.mapM.loop (m:=Sem) (λf=>do pure (f.offset,← Go.sizeOf f.type)) K.toList []) (f:=λr=>pure r.toArray) (key K.toList [] places.toList ac ?_)
 simp only[List.reverse_nil,sP,lp,pure];rw[e,al];exact⟨V,V⟩
end
variable {S:List Seg}
variable{todo:Li_}{d1:Tmp}{ats:Array TypeId}{g':On_}{fn:Func}{R:Value->LH->Seg->Prop}{args:Array Operand}{S':List Seg}
section
variable {b:Frame}{n:Nat}
variable {x:Operand}{v:Value}{i:Nat}
theorem JS.box(O:ops[i]?=some ⟨d,.box e x,ty,p,af,g⟩)(hw:A2 L ops ⟨d,.box e x,ty,p,af,g⟩=some true)(U:BZ b n ⟨d,.box e x,ty,p,af,g⟩=true)(Y:Av E H S)(Z:ev L x=some v)
  (h:∀r,Av E H (S++ [[(r,.cells v.cells e (0,0))]])->JL J Q b n (AA L d (.pointer (some ⟨r,0,none⟩))) ds (.inRegion ops rest::k) cs (Ak E H (S++ [[(r,.cells v.cells e (0,0))]]))):
  JL J Q b n L ds (.inRegion ops (i::rest)::k) cs (Ak E H S):=
 JL.box O hw U Y Z λr K=>by rw[(F6 K).1];exact h r (F6 K).2
theorem JS.alloc{z:Value}(O:ops[i]?=some ⟨d,.alloc e,ty,p,af,g⟩)(hw:A2 L ops ⟨d,.alloc e,ty,p,af,g⟩=some true)(U:BZ b n ⟨d,.alloc e,ty,p,af,g⟩=true)(Y:Av E H S)(Z:zeroOf P e=some z)
  (h:∀r,Av E H (S++ [[(r,.cells z.cells e (0,0))]])->JL J Q b n (AA L d (.pointer (some ⟨r,0,none⟩))) ds (.inRegion ops rest::k) cs (Ak E H (S++ [[(r,.cells z.cells e (0,0))]]))):
  JL J Q b n L ds (.inRegion ops (i::rest)::k) cs (Ak E H S):=
 JL.alloc O hw U Y Z λr K=>by rw[(F6 K).1];exact h r (F6 K).2
theorem JS.store{bk:Nat}{c:Av_}(j:Nat)(U:ops[i]?=some ⟨d,.store t x y,ty,p,af,g⟩)(hw:A2 L ops ⟨d,.store t x y,ty,p,af,g⟩=some true)(Y:BZ b n ⟨d,.store t x y,ty,p,af,g⟩=true)(Z:Av E H S)
  (ac:ev L x=some (.pointer (some ⟨bk,off,none⟩))) (ag:ev L y=some v) (al:BB P t=some v.cells.size) (am:∀u∈v.cells.toList,C5 u=true) (K:S[j]?=some [(bk,.cells c e (0,0))]) (hle:off+v.cells.size<=c.size)
  (h:Av E H (S.set j [(bk,.cells (Bc c off v.cells.toList) e (0,0))])->JL J Q b n (AA L d undef) ds (.inRegion ops rest::k) cs (Ak E H (S.set j [(bk,.cells (Bc c off v.cells.toList) e (0,0))]))):
  JL J Q b n L ds (.inRegion ops (i::rest)::k) cs (Ak E H S):=by
 let⟨ap,aq⟩:=HB Z K;rw[ap];refine JL.store (S.set j []).flatten.length U hw Y aq ac ag al am (c:=c) (e:=e) (by simp) hle λO=>?_;have av:((S.set j []).flatten++ [(bk,Obj.cells c e (0,0))]).set (S.set j []).flatten.length (bk,.cells (Bc c off v.cells.toList) e (0,0))=(S.set j []).flatten++ [(bk,.cells (Bc c off v.cells.toList) e (0,0))]:=JW _ _ _ _;rw[av] at O ⊢;let⟨aw,ay⟩:=J3 K O;rw[aw];exact h ay
theorem JS.drop(j:Nat)(Y:Av E H S)(K:S[j]?=some seg)(h:Av E H (S.set j [])->JL J Q b n L ds todo cs (Ak E H (S.set j []))):JL J Q b n L ds todo cs (Ak E H S):=by
 let⟨Z,O⟩:=HB Y K;rw[Z];have ac:Nd E H ((S.set j []).flatten++ []):=by rw[r9];exact LQ.Nd.left O
 let⟨U,ag⟩:=J3 (seg':=[]) K ac;refine JL.drop (S.set j []).flatten (λq al=>so.1 (sD _ al)) O ?_;have am:(S.set j []).flatten++ []=(S.set j []).flatten:=r9 _;rw[am] at U;rw[U];exact h ag
theorem Db{bk:Nat}{c:Av_}{f:Nat×Nat}(j:Nat)(O:Av E H S)(U:S[j]?=some [(bk,.cells c e f)])
  (h:∀E',Le E E'->At E' bk 0 c.toList->Av E' H (S.set j [])->JL J Q b n L ds todo cs (Ak E' H (S.set j []))):JL J Q b n L ds todo cs (Ak E H S):=by
 let⟨Y,Z⟩:=HB O U;rw[Y];have ac:((S.set j []).flatten++ [(bk,Obj.cells c e f)])[(S.set j []).flatten.length]?=some (bk,Obj.cells c e f):=by simp
 refine JL.freeze (S.set j []).flatten.length Z ac λE' hle ag K=>?_;have al:((S.set j []).flatten++ [(bk,Obj.cells c e f)]).eraseIdx (S.set j []).flatten.length=(S.set j []).flatten:=by rw[tD (rJ _)];simp
 rw[al] at K ⊢;exact h E' hle ⟨_,_,_,ag,λi w hi=>by simpa using hi⟩ K
theorem Ck{pp:Rp α}{a:Option Addr}{xs:List α}(j:Nat)(U:OL e pp E a c seg xs)(am:Av E H S)(ap:S[j]?=some seg)
  (h:∀E',Le E E'->Ao pp E' a c xs->Av E' H (S.set j [])->JL J Q b n L ds todo cs (Ak E' H (S.set j []))):JL J Q b n L ds todo cs (Ak E H S):=by
 obtain⟨wss,U,ac,ag⟩:=U;have aq:∀ad:Addr,a=some ad->ad.spot=none:=λad K=>by
  rcases U with⟨O,_⟩ | ⟨bk,f,O,_⟩;rw[O] at K;cases K;rw[O] at K;cases K;rfl
 let⟨O,av⟩:=HB am ap;rw[O];refine Zi U av λE' hle aw ay=>h E' hle ?_ ay;obtain⟨az,a0,Y,a1,a6,Z⟩:=aw;obtain⟨rfl,-,rfl⟩:a=az/\xs.length=xs.length/\c=a0:=by
  simp only[Value.slice.injEq] at Y;exact⟨Y.1,V,Y.2.2⟩
 refine⟨a1,?_⟩;rcases Z with Z | ⟨bk,off,f,a2,fr,a3,g2,a4⟩;exact .inl ⟨sa Z,λad K=>.inl (aq ad K)⟩
 .refine .inr ⟨bk,off,a3,λi x al=>?_⟩;have a5:i<wss.length:=by rw[ac];exact(d7.1 al).1
  have hw:=cT a5;refine⟨wss[i],pp.M hle (ag i x _ al hw),f,a2,fr,g2,λm w hm=>?_⟩;rw[t9];exact a4 _ w (LK (Je ac ag) hw m w hm)
theorem Zr{pp:Rp α}{xs:List α}{x:α}{ws:Lv_}(O:wss.length=xs.length)(h:∀(i:Nat) x ws,xs[i]?=some x->wss[i]?=some ws->pp.r E ws x)(U:pp.r E ws x):
  ∀(i:Nat) y us,(xs++ [x])[i]?=some y->(wss++ [ws])[i]?=some us->pp.r E us y:=by
 intro i y us K hu;rcases jH i xs.length with hi | hi;rw[rQ hi] at K;rw[rQ (by omega)] at hu;exact h i y us K hu
 .rw [no hi] at K;rw[no (by omega),O] at hu;cases hm:i - xs.length with
  | zero=>rw[hm] at K hu;simp at K hu;subst K hu;exact U
  | succ m=>rw[hm] at K;simp at K
theorem ZI{pp:Rp α}{t1 t2:TypeId}{id:Nat}{a:Option Addr}{xs:List α}{xv:α}{am:Nat}{Y:TypeId}{Z:String}{ac:Ae_}{z:Value}(j:Nat)
  (av:ops[i]?=some ⟨some d1,.buildSlice t2 1 #[(0,y)],Y,Z,ac,g'⟩) (hw:A2 L ops ⟨some d1,.buildSlice t2 1 #[(0,y)],Y,Z,ac,g'⟩=some true) (aw:BZ b n ⟨some d1,.buildSlice t2 1 #[(0,y)],Y,Z,ac,g'⟩=true)
  (ay:ops[am]?=some ⟨d,.call ⟨.builtin .append,#[x,.tmp d1],ats⟩,ty,p,af,g⟩) (az:∀w,A2 (AA L (some d1) w) ops ⟨d,.call ⟨.builtin .append,#[x,.tmp d1],ats⟩,ty,p,af,g⟩=some true) (a0:BZ b n ⟨d,.call ⟨.builtin .append,#[x,.tmp d1],ats⟩,ty,p,af,g⟩=true)
  (a1:∀w,ev (AA L (some d1) w) x=some (.slice a xs.length c)) (a2:ev L y=some v) (a3:ats[0]?=some t) (a4:ats[1]?=some t1) (a5:P.underlying t=some (.slice e)) (a6:P.underlying t1=some (.slice e)) (a7:P.underlying t2=some (.slice e)) (a8:BB P e=some pp.n) (hb:Gs P e=some id) (a9:zeroOf P e=some z) (bb:z.cells.size=pp.n)
  (be:0<id) (bi:id<=64) (bn:0<pp.n) (bo:pp.n<=64) (bv:xs.length+1<=2^40) (ag:OL e pp E a c seg xs) (al:pp.r E v.cells.toList xv) (bw:Av E H S) (ap:S[j]?=some seg)
  (h:∀w K O seg',OL e pp E K O seg' (xs++ [xv])->Av E H (S.set j seg')->JL J Q b n (AA (AA L (some d1) w) d (.slice K (xs++ [xv]).length O)) ds (.inRegion ops rest::k) cs (Ak E H (S.set j seg'))):
  JL J Q b n L ds (.inRegion ops (i::am::rest)::k) cs (Ak E H S):=by
 obtain⟨wss,ag,aq,bx⟩:=ag;let⟨bz,b0⟩:=HB bw ap;rw[bz];have b1:v.cells.size=pp.n:=by simpa using pp.len al
 refine ZD av hw aw ay az a0 a1 a2 a3 a4 a5 a6 a7 a8 hb a9 bb be bi b1 bn bo bv (pp.one al) ag b0 λw K O b2 b3 b4=>?_;let⟨b5,b6⟩:=J3 ap b4;rw[b5];have hlen:(xs++ [xv]).length=xs.length+1:=by simp
 have:=h w K O b2 ⟨wss++ [v.cells.toList],by rw[hlen,tC];simpa using b3,by simp[aq],Zr aq bx al⟩ b6;rw[hlen] at this;exact this
theorem WC{pp:Rp α}{a:Option Addr}{xs:List α}{xv:α}{m:Int}(O:Ao pp E a c xs)(hm:ix xs m=some xv)
  (U:ops[i]?=some ⟨d,.indexAddr t x y,ty,p,af,g⟩) (hw:A2 L ops ⟨d,.indexAddr t x y,ty,p,af,g⟩=some true) (Y:BZ b n ⟨d,.indexAddr t x y,ty,p,af,g⟩=true)
  (Z:ev L x=some (.slice a xs.length c)) (ac:ev L y=some (.int kd m)) (ag:P.underlying t=some (.slice e)) (al:BB P e=some pp.n)
  (h:∀bk o ws,pp.r E ws xv->At E bk o ws->JL J Q b n (AA L d (.pointer (some ⟨bk,o,none⟩))) ds (.inRegion ops rest::k) cs (Ak E H S)):
  JL J Q b n L ds (.inRegion ops (i::rest)::k) cs (Ak E H S):=by
 obtain⟨m,rfl,hm⟩:=F7 hm;have am:m<xs.length:=(d7.1 hm).1;obtain⟨aw,⟨rfl,_⟩ | ⟨bk,off,rfl,ap⟩⟩:=O;simp at am
 let⟨ws,aq,av⟩:=ap m xv hm;refine Bi (v:=.pointer (some ⟨bk,off+m*pp.n,none⟩)) U hw Y (λρ K=>?_) (h bk _ ws aq av);have:=NI (P:=P) (s:=Ak E H S) (d:=d) (ty:=ty) (p:=p) (af:=af) (g:=g) ag al (K x _ Z) (K y _ ac) ⟨by omega,by omega⟩;rw[Et rfl] at this;simpa using this
theorem At.Ky{bk o:Nat}{ws:Lv_}(h:At E bk o ws)(K:ws[j]?=some w):(Ak E H S).cell? ⟨bk,o+j,none⟩=some w:=h.cell K
theorem At.Tk{bk o:Nat}{ws:Lv_}(h:At E bk o ws):∀j v,ws[j]?=some v->(Ak E H S).cell? (Addr.add ⟨bk,o,none⟩ j)=some v:=h.cells
theorem Bx(I:Env->St->Prop){c:Code}(K:∀L s,I L s->JL J Q b n L ds todo cs s)(h:(∀L s,I L s->JL J Q b n L ds todo cs s)->JL J Q b n L ds (.code c::todo) cs s):JL J Q b n L ds (.code c::todo) cs s:=h K
theorem HY{K:List Nat}(l:List Nat)(I:Env->St->Prop)(O:∀L s,I L s->JL J Q b n L ds (.inRegion ops l::todo) cs s)(h:(∀L s,I L s->JL J Q b n L ds (.inRegion ops l::todo) cs s)->JL J Q b n L ds (.inRegion ops K::todo) cs s):JL J Q b n L ds (.inRegion ops K::todo) cs s:=h O
theorem VS{A:Type}{c:Code}{body:β->Option (Bm β A)}{f:Nat}{O:β}{a:A}(U:iter body f O=some a)(I:Env->St->β->Prop)(Z:I L s O)
  (round:∀L s x,I L s x->(∀Y,body x=some (.done Y)->Y=a)->(∃st,body x=some st)->(∀L' s' x',I L' s' x'->body x=some (.more x')->JL J Q b n L' ds (.inLoop c::k) cs s')->JL J Q b n L ds (.code c:: .inLoop c::k) cs s):
  JL J Q b n L ds (.code (.loop c)::k) cs s:=by
 refine Ja ?_
 induction f generalizing L s O with
 | zero=>cases U
 | succ f ac=>
  refine round L s O Z (λY h=>U7 U h) (UP U) λL' s' x' ag hb=>JL.again (ac (U2 U hb) ag)
def AZ(J:Judge P)(f:FuncId)(args:Lv_)(E:LH)(B:Seg)(R:Value->LH->Seg->Prop):Prop:=
 ∀H,Nd E H B->Fj J f args.toArray (mk E H B) (λv s'=>∃E' B',Le E E'/\R v E' B'/\Nd E' H B'/\s'=mk E' H B')
theorem AZ.enter{f:FuncId}{c:Code}{vs:Lv_}{B:Seg}(O:P.funcs[f]?=some fn)(hb:fn.body=some c)(U:vs.length<=fn.ntmps)
  (h:∀(Q:Gs_) (K:Frame) (cs:Lf_) (H:LH),Av E H [B]->(∀v E' S' B',Le E E'->S'.flatten=B'->R v E' B'->Av E' H S'->J.ok Q (G (K.finish v) cs) (Ak E' H S'))->JL J Q (base f) fn.ntmps (GY 0 vs) [] [.code c] (K::cs) (Ak E H [B])):AZ J f vs E B R:=λH Y=>
 Fj.enter O hb U λQ K cs Z=>by
  have ac:mk E H B=Ak E H [B]:=by unfold Ak;simp
  rw[ac];exact h Q K cs H (by unfold Av;simpa using Y) λv E' S' B' hle ag al am=>by
   subst ag;exact Z v _ ⟨E',S'.flatten,hle,al,am,rfl⟩
theorem AZ.M{f:FuncId}{vs:Lv_}{B:Seg}{K:Value->LH->Seg->Prop}(h:AZ J f vs E B R)(U:∀v E' B',Le E E'->R v E' B'->K v E' B'):AZ J f vs E B K:=λH Y=>
 (h H Y).M λv s' ⟨E',B',O,Z,ac,ag⟩=>⟨E',B',O,U v E' B' O Z,ac,ag⟩
theorem Gm{H:LH}:∀{A B:List (Nat×Obj)},By (A++B) H=By A (By B H)
 | [],_=>rfl
 | (c,o)::A,B=>by
  funext x
  simp only[tl,By]
  split;rfl;rw[Gm]
theorem O8{H:LH}{x:Nat}:∀{B:List (Nat×Obj)},(∀p∈B,p.1≠x)->By B H x=H x
 | [],_=>rfl
 | (c,u)::B,K=>by
  have O:x≠c:=λe=>K (c,u) (by simp) e.symm
  simp only[By,d0 O]
  exact O8 λp U=>K p (f4 _ U)
theorem Nd.front{B:List (Nat×Obj)}(h:Nd E H (A++B)):Nd E (By B H) A:=by
 rw[Nd.iff] at h ⊢;obtain⟨K,U⟩:=h;rw[sB,sR] at K;refine⟨K.1,λq O=>⟨(U q (sD _ O)).1,?_⟩⟩;rw[O8 λr Y e=>K.2.2 q.1 (uC O) r.1 (uC Y) e.symm];exact(U q (sD _ O)).2
theorem Nd.glue{B:List (Nat×Obj)}(h:Nd E (By B H) A)(U:Nd E H B):Nd E H (A++B):=by
 have Y:=U;rw[Nd.iff] at h U ⊢;rw[sB,sR];have key:∀q∈A,∀r∈B,q.1≠r.1:=λq K r O e=>by
  have:=(h.2 q K).2;rw[e] at this;let⟨i,hi⟩:=Y.mem (b:=r.1) (o:=r.2) O;rw[Ks Y hi] at this;cases this
 refine⟨⟨h.1,U.1,λx Z y ac e=>?_⟩,λq K=>?_⟩;obtain⟨q,K,rfl⟩:=sj.1 Z;obtain⟨r,O,rfl⟩:=sj.1 ac;exact key q K r O e
 .rcases kO.1 K with K | K
  .refine⟨(h.2 q K).1,?_⟩;have:=(h.2 q K).2
   rwa[O8 λr O e=>key q K r O e.symm] at this
  .exact U.2 q K
theorem VU{f:FuncId}{vs:Lv_}(j:Nat)
  (ag:AZ J f vs E seg R) (al:ops[i]?=some ⟨d,.call ⟨.value (.func f),args,ats⟩,ty,p,af,g⟩) (hw:A2 L ops ⟨d,.call ⟨.value (.func f),args,ats⟩,ty,p,af,g⟩=some true) (am:((b.kind != .early)&&Bz n d)=true) (hb:El P f=true)
  (ap:evs L args.toList=some vs) (K:Av E H S) (O:S[j]?=some seg) (aq:∀v E' seg',Le E E'->R v E' seg'->Av E' H (S.set j seg')->JL J Q b n (AA L d v) ds (.inRegion ops rest::k) cs (Ak E' H (S.set j seg'))):
  JL J Q b n L ds (.inRegion ops (i::rest)::k) cs (Ak E H S):=by
 have U:S.flatten.Perm (seg++(S.set j []).flatten):=(EU (seg':=seg) O).1.trans r0;have Y:Nd E H (seg++(S.set j []).flatten):=Nd.perm K U;have av:Ak E H S=mk E (By (S.set j []).flatten H) seg:=by
  rw[show Ak E H S=mk E H S.flatten from rfl,FK K U];unfold mk;rw[Gm]
 rw[av];refine dO al hw am hb ap (ag _ (Nd.front Y)) ?_;rintro v s' ⟨E',B',hle,aw,ay,rfl⟩;have e2:mk E' (By (S.set j []).flatten H) B'=mk E' H (B'++(S.set j []).flatten):=by unfold mk;rw[Gm]
 have az:Nd E H (S.set j []).flatten:=by
  have:=Y;rw[Nd.iff] at this ⊢;rw[sB,sR] at this;exact⟨this.1.2.1,λq a0=>this.2 q (sc _ a0)⟩
 refine WB V λ⟨w,a1⟩=>?_;have a2:Nd E' H (S.set j []).flatten:=az.grow λx a3=>by
  have a4:=a1.d x a3;have a5:By B' (By (S.set j []).flatten H) x=none:=a4;exact(IA a5).1
 have Z:Nd E' H (B'++(S.set j []).flatten):=Nd.glue ay a2;rw[e2];have ac:(B'++(S.set j []).flatten).Perm (S.set j B').flatten:=r0.trans (EU O).2.symm;rw[FK Z ac];exact aq v E' B' hle aw (Nd.perm Z ac)
theorem JS.call{f:FuncId}{vs:Lv_}
  (U:AZ J f vs E [] R) (Y:ops[i]?=some ⟨d,.call ⟨.value (.func f),args,ats⟩,ty,p,af,g⟩) (hw:A2 L ops ⟨d,.call ⟨.value (.func f),args,ats⟩,ty,p,af,g⟩=some true) (Z:((b.kind != .early)&&Bz n d)=true) (hb:El P f=true)
  (ac:evs L args.toList=some vs) (K:Av E H S) (ag:∀v E' seg',Le E E'->R v E' seg'->Av E' H (S++ [seg'])->JL J Q b n (AA L d v) ds (.inRegion ops rest::k) cs (Ak E' H (S++ [seg']))):
  JL J Q b n L ds (.inRegion ops (i::rest)::k) cs (Ak E H S):=by
 have al:Ak E H S=Ak E H (S++ [[]]):=by unfold Ak;simp
 rw[al];refine VU S.length U Y hw Z hb ac (by unfold Av at K ⊢;rw[Hz,r9];exact K) (by simp) λv E' seg' hle am O=>?_;have e2:(S++ [[]]).set S.length seg'=S++ [seg']:=JW _ _ _ _;rw[e2] at O ⊢;exact ag v E' seg' hle am O
theorem Jb(K:S'.flatten=S.flatten)(O:Av E H S)(h:Av E H S'->JL J Q b n L ds todo cs (Ak E H S')):JL J Q b n L ds todo cs (Ak E H S):=by
 unfold Ak Av at*;rw[K] at h;exact h O
end
def Ld(P:Program)(t:TypeId)(a:Addr)(s:St)(v:Value):Prop:=lp P (loadVar t a) s (λu s'=>u=v/\s'=s) (λ_ _=>False)
theorem Ld.one{P:Program}{t:TypeId}{a:Addr}{s:St}{v:Value}(K:DY P t=some false)(h:s.cell? a=some v):Ld P t a s v:=Um K h ⟨V,V⟩
theorem Ld.many{P:Program}{t:TypeId}{a:Addr}{s:St}{vs:Lv_}(K:DY P t=some true)(O:BB P t=some vs.length)(h:∀j v,vs[j]?=some v->s.cell? (a.add j)=some v):Ld P t a s (.agg vs.toArray):=Uj K O h ⟨V,V⟩
def RV(P:Program)(L:Env)(s:St):List ResultVar->Lv_->Prop
 | [],[]=>True
 | .tmp t::rs,v::vs=>look L t=some v/\RV P L s rs vs
 | .cell a t::rs,v::vs=>(∃ad,look L a=some (.pointer (some ad))/\Ld P t ad s v)/\RV P L s rs vs
 | _,_=>False
def P1:Lv_->Value
 | [v]=>v
 | vs=>.tuple vs.toArray
theorem ZL(vs:Lv_):(if h:vs.toArray.size=1 then vs.toArray[0] else Value.tuple vs.toArray)=P1 vs:=by
 match vs with
 | []=>rfl
 | [v]=>rfl
 | a::b::c=>simp[P1]
theorem BL.list{P:Program}{f:FuncId}{n:Nat}{L:Env}{s:St}{rs:List ResultVar}{vs:Lv_}(Z:P.funcs[f]?=some fn)(ac:fn.results.toList=rs)(h:RV P L s rs vs):BL P f L n s (P1 vs):=by
 refine⟨fn,Z,λT U=>?_⟩;unfold results;rw[tL,ac];have key:∀(rs:List ResultVar) (acc vs:Lv_) {Q:Lv_->St->Prop}{X:Halt->St->Prop},RV P L s rs vs->Q (acc.reverse++vs) s->lp P (List.mapM.loop (m:=Sem) (λr=>match r with
   | .tmp t=>pure (T.getD t undef)
   | .cell a t=>do loadVar t (← asAddr (T.getD a undef))) rs acc) s Q X:=by
  intro rs
  induction rs with
  | nil=>
   intro acc vs Q X h k;cases vs with
   | nil=>simp only[r9] at k;exact k
   | cons v vs=>cases h
  | cons r rs Y=>
   intro acc vs Q X h k;cases vs with
   | nil=>cases r<;>cases h
   | cons v vs=>
    cases r with
    | tmp t=>
     obtain⟨K,O⟩:=h;have:=U.at_ t v K;simp only[List.mapM.loop];rw[this];exact Y (v::acc) vs O (by simpa using k)
    | cell a t=>
     obtain⟨⟨ad,K,ag⟩,O⟩:=h;have:=U.at_ a _ K;simp only[List.mapM.loop];rw[this];refine Ay _ _ (Es _ (show lp P (loadVar t ad) s _ _ from ag) ?_ (λ_ _ h=>h.elim));rintro u s' ⟨rfl,rfl⟩;exact Y (u::acc) vs O (by simpa using k)
 refine Ay _ _ (Ay (x:=List.mapM.loop (m:=Sem) _ rs []) (f:=λr=>pure r.toArray) ?_);refine key rs [] vs h ?_;simp only[List.reverse_nil,sP,lp,pure];exact⟨ZL vs,trivial⟩
section
variable {g:Goroutine}
theorem Fe(j:Nat)(Z:Av E H S)(U:S[j]?=some seg)(h:Av E H (S.set j [])->J.ok Q g (Ak E H (S.set j []))):J.ok Q g (Ak E H S):=by
 let⟨ac,K⟩:=HB Z U;have ag:Nd E H ((S.set j []).flatten++ []):=by rw[r9];exact LQ.Nd.left K
 let⟨aq,al⟩:=J3 (seg':=[]) U ag;refine J.ghost (s₀:=Ak E H (S.set j [])) ⟨λ_ _ h=>h,λx o am=>?_,λ_ _ h=>.inl h,V⟩ (h al);have Y:By (S.set j []).flatten H x=some o:=am;show(Ak E H S).H x=some o;rw[ac];show By ((S.set j []).flatten++seg) H x=some o;rw[show By ((S.set j []).flatten++seg) H=By (seg++(S.set j []).flatten) H from Us K r0,Gm];by_cases hm:∃p∈seg,p.1=x;exfalso;obtain⟨p,O,e⟩:=hm;have ap:=Nd.front (Nd.perm K r0);have:=((Nd.iff.1 ap).2 p O).2;rw[e,Y] at this;cases this;rw[O8 λp O e=>hm ⟨p,O,e⟩];exact Y
end
variable{K:Nat}{E0:LH}
section
variable {b:Frame}{n:Nat}
variable {x:Operand}{v:Value}{i:Nat}
theorem Va{ρ:Operand->Value}:execOp ρ ⟨d,.buildSlice t K ps,ty,p,af,g⟩=(do pure (Next.value (← Instr.buildSlice t K (ps.map λ(j,x)=>(j,ρ x))))):=by
 simp only[execOp]
theorem ZK(v:Av_)(off:Nat)(c:Av_):v.zipIdx.foldl (λcs (x,j)=>cs.setIfInBounds (off+j) x) c=Bc c off v.toList:=by
 rw[← Array.foldl_toList,Array.toList_zipIdx];have key:∀(l:Lv_) (st:Nat) (c:Av_),List.foldl (λcs (p:Value×Nat)=>cs.setIfInBounds (off+p.2) p.1) c (l.zipIdx st)=Bc c (off+st) l:=by
  intro l
  induction l with
  | nil=>intro st c;rfl
  | cons x l K=>intro st c;simp only[vE,tq,Bc];rw[K];rfl
 exact key v.toList 0 c
def Mf(place:Nat->Option (Nat×Nat))(cells:Av_):List (Nat×Value)->Option (Av_)
 | []=>some cells
 | (i,v)::rest=>match place i with
  | none=>none
  | some (off,size)=>if v.cells.size=size/\off+v.cells.size<=cells.size then Mf place (Bc cells off v.cells.toList) rest else none
theorem fill_eq{place:Nat->Option (Nat×Nat)}:∀{vs:List (Nat×Value)}{cells:Av_},Instr.fill place cells vs=Mf place cells vs
 | [],_=>rfl
 | (i,v)::rest,cells=>by
  simp only[Instr.fill,Mf]
  cases place i with
  | none=>rfl
  | some q=>
   obtain⟨off,size⟩:=q
   simp only
   by_cases h:v.cells.size=size/\off+v.cells.size<=cells.size;rw[d6 h,d0 (by simp only[sW,tg,ne_eq];omega),fill_eq,ZK];rw[d0 h,d6 (by simp only[sW,tg,ne_eq];omega)]
theorem VG{n:Nat}:∀(vs:Lv_) (st:Nat) (cells:Av_),(∀v∈vs,v.cells.size=n)->cells.size=(st+vs.length)*n->
  ∃U,Mf (λi=>some (i*n,n)) cells ((vs.zipIdx st).map λq=>(q.2,q.1))=some U/\U.toList=cells.toList.take (st*n)++(vs.map (·.cells.toList)).flatten
 | [],st,cells,_,K=>⟨cells,rfl,by simp only[u6,sY] at K;simp[← K,s4]⟩
 | v::vs,st,cells,Y,K=>by
  have O:=Y v (by simp)
  have hle:st*n+n<=cells.size:=by
   rw[K,r4];have:(st+1)*n<=(st+(vs.length+1))*n:=sH _ (by omega);rw[sT] at this;exact this
  obtain⟨Z,ac,ag⟩:=VG vs (st+1) (Bc cells (st*n) v.cells.toList) (λu hu=>Y u (f4 _ hu)) (by rw[NH,K,r4];congr 1;omega);refine⟨Z,?_,?_⟩;simp only[vE,sN,Mf];rw[d6 ⟨O,by omega⟩];exact ac;rw[ag,sT];have:=Ru cells (st*n) v.cells.toList (by simp[O];omega);rw[show v.cells.toList.length=n by simp[O]] at this;rw[this];simp
def Ml{α:Type}(pp:Rp α)(E:LH):List α->Lv_->Prop
 | [],[]=>True
 | x::xs,v::vs=>pp.r E v.cells.toList x/\Ml pp E xs vs
 | _,_=>False
theorem Ml.at{E:LH}{α:Type}{pp:Rp α}:∀{xs:List α}{vs:Lv_},Ml pp E xs vs->∀(i:Nat) x v,xs[i]?=some x->vs[i]?=some v->pp.r E v.cells.toList x
 | [],_,_,_,_,_,h,_=>by simp at h
 | _::_,[],h,_,_,_,_,_=>h.elim
 | x::xs,v::vs,h,0,y,u,K,hu=>by simp at K hu;subst K hu;exact h.1
 | x::xs,v::vs,h,i+1,y,u,K,hu=>Ml.at h.2 i y u (by simpa using K) (by simpa using hu)
theorem XP{ρ:Operand->Value}{K:Next->St->Prop}(aw:Ft L ρ){pp:Rp α}{id:Nat}(vs:Lv_){z:Value}(xs:List α)
  (ay:P.underlying t=some (.slice e)) (az:BB P e=some pp.n) (a0:zeroOf P e=some z) (a1:decide (0<id*pp.n/\id*pp.n<=2^24)=true)
  (a2:ps.toList.mapM (λq=>(ev L q.2).map λv=>(q.1,v))=some ((vs.zipIdx 0).map λq=>(q.2,q.1)))
  (U:vs.length=id) (Y:xs.length=id) (a3:Ml pp E0 xs vs) (a4:Av E H S)
  (h:∀r seg,OL e pp E0 (some ⟨r,0,none⟩) id seg xs->Av E H (S++ [seg])->K (.value (.slice (some ⟨r,0,none⟩) xs.length id)) (Ak E H (S++ [seg]))):
  lp P (execOp ρ ⟨d,.buildSlice t id ps,ty,p,af,g⟩) (Ak E H S) K (λ_ _=>False):=by
 have al:=a3.at;have a5:(ps.map λ(j,x)=>(j,ρ x)).toList=(vs.zipIdx 0).map λq=>(q.2,q.1):=by
  have key:∀(l:List (Nat×Operand)) (vs:List (Nat×Value)),l.mapM (λq=>(ev L q.2).map λv=>(q.1,v))=some vs->l.map (λ(j,x)=>(j,ρ x))=vs:=by
   intro l
   induction l with
   | nil=>intro vs h;simp at h;subst h;rfl
   | cons q l Z=>
    intro vs h;simp only[vq,bind] at h;cases ac:ev L q.2 with
    | none=>rw[ac] at h;simp at h
    | some w=>
     rw[ac] at h;simp only[sU,Option.bind_some] at h;let⟨a6,a7,am⟩:=bind_some h;simp at am;subst am;simp[Z a6 a7,aw _ _ ac]
  rw[u0];exact key _ _ a2
 have ap:∀v∈vs,v.cells.size=pp.n:=λv O=>by
  let⟨i,hi⟩:=so.1 O;have a8:i<xs.length:=by rw[Y,← U];exact(d7.1 hi).1
  simpa using pp.len (al i _ v (cT a8) hi)
 rw[Va];refine Ay _ _ ?_;unfold Instr.buildSlice;refine Ay _ _ (Cy ay ?_);refine Ay _ _ (FC az ?_);have be:=tf a1;rw[d0 (by omega),d0 (by omega)];refine Ay (x:=zeroValue e) _ (IB a0 ?_);rw[I6,a5];obtain⟨cells,a9,ag⟩:=VG vs 0 ((Array.range (id*pp.n)).map (z.cells[· % z.cells.size]!)) ap (by simp[U]);simp only[fill_eq,a9];simp only[tY,List.take_zero,sP] at ag;refine Ay _ _ (Kp a4 λr aq=>?_);rw[(F6 aq).1];have av:cells.size=id*pp.n:=by
  have:cells.toList.length=id*pp.n:=by
   rw[ag];have:∀(vs:Lv_),(∀v∈vs,v.cells.size=pp.n)->(vs.map (·.cells.toList)).flatten.length=vs.length*pp.n:=by
    intro vs
    induction vs with
    | nil=>intro _;simp
    | cons v vs Z=>intro h;rw[sN,su,rS,Z λw hw=>h w (f4 _ hw),r4,sT,vF];simp[h v (by simp)]
   rw[this vs ap,U]
  simpa using this
 have:=h r [(r,.cells cells e (0,0))] ⟨vs.map (·.cells.toList),.inr ⟨r,cells,rfl,rfl,av,by omega,by rw[← ag,s4 (by simp[av,Y])]⟩,by simp[U,Y],λi x ws bb hw=>by
  rw[sk] at hw
  cases O:vs[i]? with
  | none=>rw[O] at hw;cases hw
  | some v=>rw[O] at hw;cases hw;exact al i x v bb O⟩ (F6 aq).2
 rw[Y] at this;exact this
theorem Gq{pp:Rp α}{id:Nat}(vs:Lv_){z:Value}(xs:List α)
  (K:ops[i]?=some ⟨d,.buildSlice t id ps,ty,p,af,g⟩) (hw:A2 L ops ⟨d,.buildSlice t id ps,ty,p,af,g⟩=some true) (O:BZ b n ⟨d,.buildSlice t id ps,ty,p,af,g⟩=true)
  (U:P.underlying t=some (.slice e)) (Y:BB P e=some pp.n) (Z:zeroOf P e=some z) (ac:decide (0<id*pp.n/\id*pp.n<=2^24)=true)
  (ag:ps.toList.mapM (λq=>(ev L q.2).map λv=>(q.1,v))=some ((vs.zipIdx 0).map λq=>(q.2,q.1)))
  (al:vs.length=id) (am:xs.length=id) (ap:Ml pp E xs vs) (aq:Av E H S)
  (h:∀r seg,OL e pp E (some ⟨r,0,none⟩) id seg xs->Av E H (S++ [seg])->JL J Q b n (AA L d (.slice (some ⟨r,0,none⟩) xs.length id)) ds (.inRegion ops rest::k) cs (Ak E H (S++ [seg]))):
  JL J Q b n L ds (.inRegion ops (i::rest)::k) cs (Ak E H S):=by
 exact JL.op K hw O λρ av=>XP av vs xs U Y Z ac ag al am ap aq h
theorem OL.get{pp:Rp α}{a:Option Addr}{xs:List α}{m:Nat}{x:α}(Z:OL e pp E a c seg xs)(hm:xs[m]?=some x):
  ∃bk f ws,a=some ⟨bk,0,none⟩/\seg=[(bk,.cells f e (0,0))]/\pp.r E ws x/\(∀j w,ws[j]?=some w->f[m*pp.n+j]?=some w)/\(m+1)*pp.n<=f.size/\
   ∀(x':α) (ws':Lv_),pp.r E ws' x'->OL e pp E a c [(bk,.cells (Bc f (m*pp.n) ws') e (0,0))] (xs.set m x'):=by
 obtain⟨wss,Z,am,ac⟩:=Z;have ap:m<xs.length:=(d7.1 hm).1;rcases Z with⟨ag,aq,_⟩ | ⟨bk,f,ag,aq,a2,av,aw⟩;omega
 have hw:wss[m]?=some wss[m]:=cT (by omega);have ay:=Je am ac;have hle:(m+1)*pp.n<=xs.length*pp.n:=sH _ ap;have a5:xs.length*pp.n<=c*pp.n:=sH _ av;refine⟨bk,f,wss[m],ag,aq,ac m x _ hm hw,λj w K=>?_,by omega,λx' ws' az=>?_⟩;have:=LK ay hw j w K;rw[aw,ta] at this;split at this;simpa using this;cases this
 .have a0:ws'.length=pp.n:=pp.len az;refine⟨wss.set m ws',.inr ⟨bk,_,ag,V,by rw[NH];exact a2,by simpa using av,?_⟩,by simpa using am,λi y us Y hu=>?_⟩
  .simp only [rW];have key:∀(wss:List (Lv_)) (m:Nat) (hm:m<wss.length),(∀ws∈wss,ws.length=pp.n)->∀j,(wss.set m ws').flatten[j]?=if m*pp.n<=j/\j<(m+1)*pp.n then ws'[j - m*pp.n]? else wss.flatten[j]? :=by
    intro wss
    induction wss with
    | nil=>intro m hm;simp at hm
    | cons us wss al=>
     intro m hm a1 j;have hu:us.length=pp.n:=a1 us (by simp);cases m with
     | zero=>
      simp only[ul,su,tY,sC,wh,tx,Nat.one_mul,tO];split;rename_i K;rw[rQ (by omega)];rename_i K;rw[no (by omega),no (by omega),a0,hu]
     | succ m=>
      simp only[uI,su];have O:(m+1)*pp.n=m*pp.n+pp.n:=sT _ _;have e2:(m+1+1)*pp.n=(m+1)*pp.n+pp.n:=sT _ _;rcases jH j us.length with K | K;rw[rQ K,rQ K,d0 (by omega)];rw[no K,no K,al m (by simpa using hm) (λws a3=>a1 ws (f4 _ a3))];by_cases U:m*pp.n<=j - us.length/\j - us.length<(m+1)*pp.n;rw[d6 U,d6 (by omega)];congr 1;omega;rw[d0 U,d0 (by omega)]
   have a4:∀(vs:Lv_) (c:Av_) (off:Nat),off+vs.length<=c.size->∀j,(Bc c off vs)[j]?=if off<=j/\j<off+vs.length then vs[j - off]? else c[j]? :=by
    intro vs
    induction vs with
    | nil=>intro c off _ j;simp[Bc];omega
    | cons w vs al=>
     intro c off U j;simp only[Bc,r4] at*;rw[al _ _ (by simp;omega)];by_cases O:j=off;subst O;rw[d0 (by omega),d6 (by omega),uM,s3,rR (by omega)]
     .by_cases e2:off+1<=j/\j<off+1+vs.length
      .rw [d6 e2,d6 (by omega)];have:j - off=(j - (off+1))+1:=by omega
       rw[this];simp
      .rw [d0 e2,d0 (by omega),mt (by omega)]
   apply s9;intro j;have O:(m+1)*pp.n=m*pp.n+pp.n:=sT _ _;have t1:(Bc f (m*pp.n) ws').toList[j]?=(Bc f (m*pp.n) ws')[j]? :=sM;have t2:f.toList[j]?=f[j]? :=sM;rw[key wss m (by omega) ay,ta,t1,a4 ws' f (m*pp.n) (by omega),aw,ta,t2,a0];by_cases U:m*pp.n<=j/\j<(m+1)*pp.n;rw[d6 U,d6 (by omega),d6 (by omega)];rw[d0 U,d0 (show ¬(m*pp.n<=j/\j<m*pp.n+pp.n) by omega)]
  .rw [tp] at Y hu;by_cases O:m=i;subst O;rw[d6 rfl,d6 ap] at Y;rw[d6 rfl,d6 (by omega)] at hu;cases Y;cases hu;exact az;rw[d0 O] at hu Y;exact ac i y us Y hu
theorem Ji{pp:Rp α}{a:Option Addr}{xs:List α}{xv:α}{m:Int}(j:Nat)(O:OL e pp E a c seg xs)(hm:ix xs m=some xv)(U:S[j]?=some seg)
  (Y:ops[i]?=some ⟨d,.indexAddr t x y,ty,p,af,g⟩) (hw:A2 L ops ⟨d,.indexAddr t x y,ty,p,af,g⟩=some true) (Z:BZ b n ⟨d,.indexAddr t x y,ty,p,af,g⟩=true)
  (ac:ev L x=some (.slice a xs.length c)) (ag:ev L y=some (.int kd m)) (al:P.underlying t=some (.slice e)) (am:BB P e=some pp.n)
  (h:∀bk o f ws,S[j]?=some [(bk,.cells f e (0,0))]->pp.r E ws xv->(∀j w,ws[j]?=some w->f[o+j]?=some w)->o+pp.n<=f.size->(∀(x':α) (ws':Lv_),pp.r E ws' x'->OL e pp E a c [(bk,.cells (Bc f o ws') e (0,0))] (xs.set m.toNat x'))->o=m.toNat*pp.n->a=some ⟨bk,0,none⟩->
   JL J Q b n (AA L d (.pointer (some ⟨bk,o,none⟩))) ds (.inRegion ops rest::k) cs (Ak E H S)):
  JL J Q b n L ds (.inRegion ops (i::rest)::k) cs (Ak E H S):=by
 obtain⟨m,rfl,hm⟩:=F7 hm;have a0:m<xs.length:=(d7.1 hm).1;obtain⟨bk,f,ws,rfl,rfl,ap,aq,av,aw⟩:=OL.get O hm;have ay:(m+1)*pp.n=m*pp.n+pp.n:=sT _ _;have az:m*pp.n+pp.n<=f.size:=by rw[← ay];exact av
 refine Bi (v:=.pointer (some ⟨bk,m*pp.n,none⟩)) Y hw Z (λρ K=>?_) (h bk (m*pp.n) f ws U ap aq az (by simpa using aw) (by simp) V);have:=NI (P:=P) (s:=Ak E H S) (d:=d) (ty:=ty) (p:=p) (af:=af) (g:=g) al am (K x _ ac) (K y _ ag) ⟨by omega,by omega⟩;rw[Et rfl] at this;simpa using this
end
section
variable {b:Frame}{n:Nat}
variable {x:Operand}{v:Value}{i:Nat}
theorem JS.perm(K:S.flatten.Perm S'.flatten)(O:Av E H S)(h:Av E H S'->JL J Q b n L ds todo cs (Ak E H S')):JL J Q b n L ds todo cs (Ak E H S):=by
 have U:Av E H S':=Nd.perm O K;rw[show Ak E H S=Ak E H S' from FK O K];exact h U
theorem Hj{A B:Seg}(j:Nat)(K:S[j]?=some (A++B))(O:Av E H S)(h:Av E H (S.set j A++ [B])->JL J Q b n L ds todo cs (Ak E H (S.set j A++ [B]))):JL J Q b n L ds todo cs (Ak E H S):=by
 refine JS.perm ?_ O h;have U:=(EU (seg':=A) K).1;have Y:=(EU (seg':=A) K).2;rw[Hz];refine U.trans ?_;have Z:=Y.symm.append_right B
 rwa[sb] at Z
theorem JS.swap{A B:Seg}(j l:Nat)(O:S[j]?=some A)(U:S[l]?=some B)(Y:(j==l)=false)(Z:Av E H S)(h:Av E H ((S.set j B).set l A)->JL J Q b n L ds todo cs (Ak E H ((S.set j B).set l A))):JL J Q b n L ds todo cs (Ak E H S):=by
 have K:j≠l:=by simpa using Y
 refine JS.perm ?_ Z h;have a1:=(EU (seg':=B) O).1;have ac:(S.set j [])[l]?=some B:=by rw[tb K];exact U
 have ag:=(EU (seg':=A) ac).1;have al:((S.set j B).set l A)[l]?=some A:=by
  have:l<(S.set j B).length:=by rw[rW];exact(d7.1 U).1
  rw[tp,d6 rfl,d6 this]
 have c1:=(EU (seg':=A) al).1;rw[wa] at c1;have am:((S.set j B).set l [])[j]?=some B:=by
  have:j<S.length:=(d7.1 O).1;rw[tb (sy K)];simp[this]
 have c2:=(EU (seg':=B) am).1;have ap:(((S.set j B).set l []).set j [])=((S.set j []).set l []):=by
  rw[vy _ _ K,wa,vy _ _ K.symm]
 rw[ap] at c2;exact a1.trans ((ag.append_right A).trans ((c2.symm.append_right A).trans c1.symm))
theorem HV{bk:Nat}{c:Av_}{f:Nat×Nat}{vs:Lv_}(j:Nat)(K:Av E H S)(O:S[j]?=some ((bk,.cells c e f)::seg))(U:(c.toList.drop off).take vs.length=vs):∀i v,vs[i]?=some v->(Ak E H S).cell? (Addr.add ⟨bk,off,none⟩ i)=some v:=
 ZN K O λi v hi=>by
  have Y:i<vs.length:=(d7.1 hi).1
  rw[← U,vG Y,uO,sM] at hi
  exact hi
theorem LS(vs:Lv_):∀(c:Av_) (off:Nat),off+vs.length<=c.size->∀j,(Bc c off vs)[j]?=if off<=j/\j<off+vs.length then vs[j - off]? else c[j]? :=by
 induction vs with
 | nil=>intro c off _ j;simp[Bc];omega
 | cons w vs K=>
  intro c off U j;simp only[Bc,r4] at*;rw[K _ _ (by simp;omega)];by_cases O:j=off;subst O;rw[d0 (by omega),d6 (by omega),uM,s3,rR (by omega)]
  .by_cases e2:off+1<=j/\j<off+1+vs.length
   .rw [d6 e2,d6 (by omega)];have:j - off=(j - (off+1))+1:=by omega
    rw[this];simp
   .rw [d0 e2,d0 (by omega),mt (by omega)]
theorem ZP{f:Av_}{o m:Nat}{ws us vs:Lv_}(hle:o+ws.length<=f.size)(Z:∀j w,ws[j]?=some w->f[o+j]?=some w)(K:vs=ws.take m++us++ws.drop (m+us.length))(hm:m+us.length<=ws.length):Bc f (o+m) us=Bc f o vs:=by
 have ac:vs.length=ws.length:=by subst K;simp;omega
 apply sK;intro j;rw[LS us f (o+m) (by omega),LS vs f o (by omega),ac];by_cases O:o+m<=j/\j<o+m+us.length;rw[d6 O,d6 (by omega)];subst K;rw[rQ (by simp;omega),no (by simp;omega)];congr 1;simp;omega;rw[d0 O];by_cases U:o<=j/\j<o+ws.length;rw[d6 U];have hw:ws[j - o]?=some ws[j - o]:=cT (by omega);have:=Z _ _ hw;rw[show o+(j - o)=j by omega] at this;rw[this,← hw];subst K;rcases jH (j - o) m with Y | Y;rw[rQ (by simp;omega),rQ (by simp;omega),vG Y];rw[no (by simp;omega),uO];congr 1;simp;omega;rw[d0 U]
end
theorem elim_inl{K:Type}{f:α->Option K}{g:β->Option K}{x:α}{r:K}(h:Sum.elim f g (.inl x)=some r):f x=some r:=h
theorem elim_inr{K:Type}{f:α->Option K}{g:β->Option K}{x:β}{r:K}(h:Sum.elim f g (.inr x)=some r):g x=some r:=h
def room{α:Type}(xs:List α)(x:α):Option (List α):=if xs.length+1<=2^40 then some (xs++ [x]) else none
theorem ai{xs ys:List α}{x:α}(h:room xs x=some ys):xs.length+1<=2^40/\ys=xs++ [x]:=by
 unfold room at h;split at h;rename_i hb;exact⟨hb,(f6 h).symm⟩;cases h
def Q5(a b:Int):Option Int:=if b=0 then none else some (a.tmod b)
def QX(a b:Nat):Option Nat:=if b=0 then none else some (a%b)
section
variable {x:Operand}{v:Value}{m:Int}{a b:Nat}
theorem gB(K:ρ x=iV m)(O:ρ y=iV m')(h:Q5 m m'=some r):Yl P ⟨d,.binOp .rem t x y u,ty,p,af,g⟩ ρ s (iV r):=by
 unfold Q5 at h;split at h;cases h;rename_i U;cases h;exact Yl.rem K O U
theorem cd{r:Nat}(K:ρ x=.int .u64 (a:Int))(O:ρ y=.int .u64 (b:Int))(h:QX a b=some r):Yl P ⟨d,.binOp .rem t x y u,ty,p,af,g⟩ ρ s (.int .u64 (r:Int)):=by
 unfold QX at h;split at h;cases h;rename_i U;cases h;exact eR K O U
theorem Yl.min2(K:ρ x=iV m)(O:ρ y=iV m'):Yl P ⟨d,.call ⟨.builtin .min,#[x,y],ats⟩,ty,p,af,g⟩ ρ s (iV (min m m')):=by
 have e:(if m'<m then m' else m)=min m m':=by split<;>omega
 simp[Yl,execOp,lp,pure,bind,Sem.bind,K,O,resolve,invoke,builtin,Builtin.min_,Builtin.min2,e]
theorem Yl.max2(K:ρ x=iV m)(O:ρ y=iV m'):Yl P ⟨d,.call ⟨.builtin .max,#[x,y],ats⟩,ty,p,af,g⟩ ρ s (iV (max m m')):=by
 have e:(if m<m' then m' else m)=max m m':=by split<;>omega
 simp[Yl,execOp,lp,pure,bind,Sem.bind,K,O,resolve,invoke,builtin,Builtin.max_,Builtin.max2,e]
end
def Np(P:Program):List Field->List (Nat×Nat)->Prop
 | f::K,(o,n)::ps=>f.offset=o/\BB P f.type=some n/\Np P K ps
 | [],[]=>True
 | _,_=>False
theorem Np.mapM{P:Program}:∀{K:List Field}{ps:List (Nat×Nat)},Np P K ps->K.mapM (λf=>(BB P f.type).map λn=>(f.offset,n))=some ps
 | [],[],_=>rfl
 | [],_::_,h=>h.elim
 | _::_,[],h=>h.elim
 | f::K,(o,n)::ps,h=>by
  obtain⟨O,U,Y⟩:=h
  simp only[vq,bind,U,sU,Option.bind_some,Np.mapM Y,O];rfl
theorem R2{L:Env}{ρ:Operand->Value}(h:Ft L ρ):∀{l:List (Nat×Operand)}{vs:List (Nat×Value)},l.mapM (λq=>(ev L q.2).map λv=>(q.1,v))=some vs->l.map (λ(j,x)=>(j,ρ x))=vs
 | [],vs,e=>by simp at e;subst e;rfl
 | q::l,vs,e=>by
  simp only[vq,bind] at e
  cases K:ev L q.2 with
  | none=>rw[K] at e;simp at e
  | some w=>
   rw[K] at e
   simp only[sU,Option.bind_some] at e
   let⟨Y,U,O⟩:=bind_some e
   simp at O;subst O
   simp[R2 h U,h _ _ K]
theorem C4{P:Program}{s:St}{ρ:Operand->Value}{L:Env}{d:Option Tmp}{t ty:TypeId}{p:String}{af:Ae_}{g:On_}{z:Value}{K:Array Field}{vs:List (Nat×Value)}{cells:Av_}(places:List (Nat×Nat))(h:Ft L ρ)(O:zeroOf P t=some z)(U:P.underlying t=some (.struct K))(Y:Np P K.toList places)
  (Z:ps.toList.mapM (λq=>(ev L q.2).map λv=>(q.1,v))=some vs) (ac:Mf (places.toArray[·]?) z.cells vs=some cells):Yl P ⟨d,.build t ps,ty,p,af,g⟩ ρ s (.agg cells):=
 Yl.build (places:=places.toArray) O U (by simpa using Y.mapM) (R2 h Z) (by rw[fill_eq];exact ac)
theorem OL.again{e:TypeId}{pp:Rp α}{E:LH}{a:Option Addr}{bk o:Nat}{f:Av_}{xs:List α}{m:Int}{x:α}(O:OL e pp E a c [(bk,.cells f e (0,0))] xs)(hm:ix xs m=some x)(U:o=m.toNat*pp.n):
  ∃ws,pp.r E ws x/\(∀j w,ws[j]?=some w->f[o+j]?=some w)/\o+pp.n<=f.size/\∀(x':α) (ws':Lv_),pp.r E ws' x'->OL e pp E a c [(bk,.cells (Bc f o ws') e (0,0))] (xs.set m.toNat x'):=by
 obtain⟨m,rfl,hm⟩:=F7 hm;let⟨ap,aq,ws,av,K,Y,Z,ac,ag⟩:=OL.get O hm;simp only[u7,d9,Obj.cells.injEq,v5] at K;obtain⟨rfl,rfl⟩:=K;have al:(m+1)*pp.n=m*pp.n+pp.n:=sT _ _;have am:o=m*pp.n:=by simpa using U
 subst am;exact⟨ws,Y,Z,by rw[← al];exact ac,by simpa using ag⟩
section
variable {b:Frame}{n:Nat}
variable {x:Operand}{v:Value}{i:Nat}
theorem JS.app{pp:Rp α}{t1 t2:TypeId}{a:Option Addr}{xs ys:List α}{xv:α}{id:Nat}{O:TypeId}{U:String}{Y:Ae_}{z:Value}(j:Nat)(al:room xs xv=some ys)
  (am:ops[i]?=some ⟨some d1,.buildSlice t2 1 #[(0,y)],O,U,Y,g'⟩) (hw:A2 L ops ⟨some d1,.buildSlice t2 1 #[(0,y)],O,U,Y,g'⟩=some true) (ap:BZ b n ⟨some d1,.buildSlice t2 1 #[(0,y)],O,U,Y,g'⟩=true)
  (aq:ops[id]?=some ⟨d,.call ⟨.builtin .append,#[x,.tmp d1],ats⟩,ty,p,af,g⟩) (av:∀w,A2 (AA L (some d1) w) ops ⟨d,.call ⟨.builtin .append,#[x,.tmp d1],ats⟩,ty,p,af,g⟩=some true) (aw:BZ b n ⟨d,.call ⟨.builtin .append,#[x,.tmp d1],ats⟩,ty,p,af,g⟩=true)
  (ay:∀w,ev (AA L (some d1) w) x=some (.slice a xs.length c)) (az:ev L y=some v) (a0:ats[0]?=some t) (a1:ats[1]?=some t1) (a2:P.underlying t=some (.slice e)) (a3:P.underlying t1=some (.slice e)) (a4:P.underlying t2=some (.slice e)) (a5:BB P e=some pp.n) (hb:Gs P e=some K) (a6:zeroOf P e=some z) (a7:z.cells.size=pp.n)
  (a8:0<K) (a9:K<=64) (bb:0<pp.n) (be:pp.n<=64) (bi:OL e pp E a c seg xs) (bn:pp.r E v.cells.toList xv) (bo:Av E H S) (bv:S[j]?=some seg)
  (h:∀w ac ag seg',OL e pp E ac ag seg' ys->Av E H (S.set j seg')->JL J Q b n (AA (AA L (some d1) w) d (.slice ac ys.length ag)) ds (.inRegion ops rest::k) cs (Ak E H (S.set j seg'))):
  JL J Q b n L ds (.inRegion ops (i::id::rest)::k) cs (Ak E H S):=by
 obtain⟨bw,rfl⟩:=ai al;exact ZI j am hw ap aq av aw ay az a0 a1 a2 a3 a4 a5 hb a6 a7 a8 a9 bb be bw bi bn bo bv h
theorem BS(K:S=S')(O:Av E H S)(h:Av E H S'->JL J Q b n L ds todo cs (Ak E H S')):JL J Q b n L ds todo cs (Ak E H S):=by
 subst K;exact h O
theorem UX(K:Av E H S)(h:Av E H (S++ [[]])->JL J Q b n L ds todo cs (Ak E H (S++ [[]]))):JL J Q b n L ds todo cs (Ak E H S):=
 Jb (S':=S++ [[]]) (by rw[Hz,r9]) K h
end
theorem Fj.Mk{P:Program}{J:Judge P}{f:FuncId}{args:Av_}{s:St}{R:Value->St->Prop}(h:Fj J f args s R)(U:∀v s',R v s'->s'.q=false):Fj J f args s (λv s'=>R v s'/\∃w,Fits s' w):=λQ c cs Y=>
 h Q c cs λv s' K=>by
  by_cases O:∃w,Fits s' w;exact Y v s' ⟨K,O⟩;exact J.step ⟨V,λw f=>absurd ⟨w,f⟩ O,λe=>by have:=U v s' K;subst e;cases this⟩
def AG(l:List Nat):Nat->Bool:=λx=>l.contains x
variable{oi:Oper}
section
variable {b:Frame}{n m fuel:Nat}
variable {x:Operand}{v:Value}{i:Nat}
def G1(ops:Ao_)(listed:Array Bool)(m i:Nat):Bool:=match ops[i]? with
 | some oi=>decide (i<m)&&Region.noSelect ops&& !EN oi.op&&J1 ops listed i oi&&IG ops listed&&listed.size==ops.size&&(Region.ready .any ops listed).contains i
 | none=>false
theorem cn(m:Nat){id:Nat}(hm:P.follows .mixedOrders=true)(K:(b.kind != .early)=true)
  (O:EC ops m=true) (h:EC ops m=true->A3 J Q b n ds ops k cs m Ec ops.size (Array.replicate ops.size false) L (Ak E H S)):JL J Q b n L ds (.code (.region id ops true)::k) cs (Ak E H S):=
 R6 m Ec V hm K (h O)
theorem UR{i:Nat}(hi:ops[i]?=some oi)(K:G1 ops listed m i=true):decide (i<m)=true/\Region.noSelect ops=true/\(!EN oi.op)=true/\J1 ops listed i oi=true/\IG ops listed=true/\(listed.size==ops.size)=true/\(Region.ready .any ops listed).contains i=true:=by
 simp only[G1,hi,f5] at K;obtain⟨⟨⟨⟨⟨⟨O,U⟩,Y⟩,Z⟩,ac⟩,ag⟩,al⟩:=K;exact⟨O,U,Y,Z,ac,ag,al⟩
theorem JG.val(i:Nat)(hi:ops[i]?=some oi)(K:EC ops m=true)(O:G1 ops listed m i=true)(U:s.q=false)
  (hw:A2 L ops oi=some true) (Y:Bz n oi.dst=true) (Z:∀ρ,Ft L ρ->∀s':St,(∀x o,(BC D s).E x=some o->s'.E x=some o)->Yl P oi ρ s' v)
  (h:A3 J Q b n ds ops k cs m D fuel (Bp listed i) (AA L oi.dst v) s):A3 J Q b n ds ops k cs m D (fuel+1) listed L s:=
 let ⟨ac,ag,al,am,ap,aq,av⟩:=UR hi O
 bK hi ac K ag al am ap aq av U hw Y (λρ aw s' _ ay=>Z ρ aw s' ay) h
theorem kW(i:Nat)(hi:ops[i]?=some oi)(K:EC ops m=true)(O:G1 ops listed m i=true)(U:s.q=false)
  (hw:A2 L ops oi=some false) (Y:Bz n oi.dst=true)
  (h:A3 J Q b n ds ops k cs m D fuel (Bp listed i) (AA L oi.dst undef) s):A3 J Q b n ds ops k cs m D (fuel+1) listed L s:=
 let ⟨Z,ac,ag,al,am,ap,aq⟩:=UR hi O
 ae hi Z K ac ag al am ap aq U hw Y h
theorem il{pp:Rp α}{a:Option Addr}{xs:List α}{xv:α}{K:Int}(i:Nat)(Y:Ao pp E a c xs)(O:ix xs K=some xv)
  (Z:ops[i]?=some ⟨d,.indexAddr t x y,ty,p,af,g⟩) (ac:EC ops m=true) (ag:G1 ops listed m i=true) (al:s.q=false)
  (hw:A2 L ops ⟨d,.indexAddr t x y,ty,p,af,g⟩=some true) (am:Bz n d=true)
  (ap:ev L x=some (.slice a xs.length c)) (aq:ev L y=some (.int kd K)) (av:P.underlying t=some (.slice e)) (aw:BB P e=some pp.n)
  (h:∀bk o ws,pp.r E ws xv->At E bk o ws->A3 J Q b n ds ops k cs m D fuel (Bp listed i) (AA L d (.pointer (some ⟨bk,o,none⟩))) s):
  A3 J Q b n ds ops k cs m D (fuel+1) listed L s:=by
 obtain⟨K,rfl,O⟩:=F7 O;have ay:K<xs.length:=(d7.1 O).1;obtain⟨a2,⟨rfl,_⟩ | ⟨bk,off,rfl,az⟩⟩:=Y;simp at ay
 let⟨ws,a0,a1⟩:=az K xv O;refine JG.val (v:=.pointer (some ⟨bk,off+K*pp.n,none⟩)) i Z ac ag al hw am (λρ U s' _=>?_) (h bk _ ws a0 a1);have:=NI (P:=P) (s:=s') (d:=d) (ty:=ty) (p:=p) (af:=af) (g:=g) av aw (U x _ ap) (U y _ aq) ⟨by omega,by omega⟩;rw[Et rfl] at this;simpa using this
theorem JG.call{f:FuncId}{vs:Lv_}(Y:AZ J f vs E [] R)(Z:Region.ready .any ops listed=[i])
  (ac:ops[i]?=some ⟨d,.call ⟨.value (.func f),args,ats⟩,ty,p,af,g⟩) (ag:Bz n d=true) (hw:A2 L ops ⟨d,.call ⟨.value (.func f),args,ats⟩,ty,p,af,g⟩=some true) (hb:El P f=true) (al:evs L args.toList=some vs) (am:Av E H S)
  (ap:∀v E' seg',Le E E'->R v E' seg'->Av E' H (S++ [seg'])->A3 J Q b n ds ops k cs m Ec fuel (Bp listed i) (AA L d v) (Ak E' H (S++ [seg']))):
  A3 J Q b n ds ops k cs m Ec (fuel+1) listed L (Ak E H S):=by
 have aq:=Fj.Mk (Y (By S.flatten H) trivial) (by rintro v s' ⟨E',B',_,_,_,rfl⟩;rfl);refine A3.call V Z ac ag hw hb al aq ?_;rintro v a2 ⟨⟨E',B',hle,av,aw,rfl⟩,w,ay⟩;have e2:mk E' (By S.flatten H) B'=mk E' H (B'++S.flatten):=by unfold mk;rw[Gm]
 have az:Nd E' H S.flatten:=Nd.grow am λx K=>by
  have a0:=ay.d x K;have a1:By B' (By S.flatten H) x=none:=a0;exact(IA a1).1
 have O:Nd E' H (B'++S.flatten):=Nd.glue aw az;have U:(B'++S.flatten).Perm (S++ [B']).flatten:=by rw[Hz];exact r0
 rw[e2,FK O U];exact⟨V,λx o K=>hle x o K,ap v E' B' hle av (Nd.perm O U)⟩
end
theorem QA{E H:LH}{S:List Seg}{bk:Nat}{o:Obj}(K:Av E H S)(O:S[j]?=some ((bk,o)::seg)):E bk=none:=by
 have hm:(bk,o)∈S.flatten:=tV.2 ⟨_,r7 O,by simp⟩;exact((Nd.iff.1 K).2 _ hm).1
def IN{α:Type}(n:Int)(z:α):Option (List α):=if 0<=n/\n<=2^20 then some (List.replicate n.toNat z) else none
def Ex{α:Type}(xs ys:List α):Option (List α):=if xs.length+ys.length<=2^40 then some (xs++ys) else none
def Ho{α:Type}(xs:List α)(lo hi:Int):Option (List α):=if 0<=lo/\lo<=hi/\hi<=xs.length then some ((xs.take hi.toNat).drop lo.toNat) else none
section
variable {x:Operand}{v:Value}{m:Int}{a b:Nat}
end
variable {L':Env}
variable{ax:Option Addr}{cx:Nat}
section
variable {b:Frame}{n:Nat}
variable {x:Operand}{v:Value}{i:Nat}
theorem aF{ρ:Operand->Value}:execOp ρ ⟨d,.makeSlice t x y,ty,p,af,g⟩=(do pure (Next.value (← Instr.makeSlice t (ρ x) (ρ y)))):=by
 simp only[execOp]
theorem Rw{α:Type}(w:List α):∀m:Nat,((List.replicate m w).flatten).length=m*w.length
 | 0=>by simp
 | m+1=>by rw[uD,su,rS,Rw w m,sT,vF]
theorem cf(z:Av_)(O:0<z.size):∀m:Nat,((Array.range (m*z.size)).map (z[· % z.size]!)).toList=(List.replicate m z.toList).flatten:=by
 intro m;apply s9;intro j;simp only[u0,Array.toList_range,sk];by_cases K:j<m*z.size
 .rw [ug K];have Y:j/z.size<m:=(Nat.div_lt_iff_lt_mul O).2 K;have U:j%z.size<z.size:=uU _ O;have hw:(List.replicate m z.toList)[j/z.size]?=some z.toList:=by simp[Y]
  have:=LK (n:=z.size) (wss:=List.replicate m z.toList) (λws Z=>by rw[tP Z];simp) hw (j%z.size) z[j%z.size] (by simp[U]);rw[show j/z.size*z.size+j%z.size=j from by rw[Nat.mul_comm];exact Nat.div_add_mod _ _] at this;rw[this];simp[U]
 .have hlen:((List.replicate m z.toList).flatten).length=m*z.size:=by rw[Rw];simp
  rw[sd (by simpa using K),sd (by rw[hlen];omega)];rfl
theorem JS.make{pp:Rp α}{z:Value}{Z:α}{m:Int}{xs:List α}(U:IN m Z=some xs)
  (av:ops[i]?=some ⟨d,.makeSlice t x y,ty,p,af,g⟩) (hw:A2 L ops ⟨d,.makeSlice t x y,ty,p,af,g⟩=some true) (aw:BZ b n ⟨d,.makeSlice t x y,ty,p,af,g⟩=true)
  (ay:ev L x=some (iV m)) (Y:ev L y=some (iV m)) (az:P.underlying t=some (.slice e)) (a0:BB P e=some pp.n) {O:Nat}(hb:Gs P e=some O) (be:O<=64) (a1:zeroOf P e=some z) (bi:0<pp.n) (ac:pp.r E z.cells.toList Z) (a2:Av E H S)
  (h:∀r seg,OL e pp E (some ⟨r,0,none⟩) xs.length seg xs->Av E H (S++ [seg])->JL J Q b n (AA L d (.slice (some ⟨r,0,none⟩) xs.length xs.length)) ds (.inRegion ops rest::k) cs (Ak E H (S++ [seg]))):
  JL J Q b n L ds (.inRegion ops (i::rest)::k) cs (Ak E H S):=by
 unfold IN at U;split at U
 rotate_left
 .cases U
 rename_i hm;cases U;refine JL.op av hw aw λρ ag=>?_;rw[aF,ag x _ ay,ag y _ Y];refine Ay _ _ ?_;unfold Instr.makeSlice;refine Ay _ _ (Cy az ?_);simp only[asInt,I6];let⟨inf,a3,a4⟩:=RY hb;refine Ay (x:=typeInfo e) _ (LF a3 ?_);simp only[a4,KZ (show -9223372036854775808<=m/\m<=9223372036854775807 by omega)];have bn:(O:Int)*m<=64*2^20:=by
  have al:(O:Int)*m<=64*m:=Int.mul_le_mul_of_nonneg_right (by omega) hm.1;omega
 have a5:((decide (m<0) || decide ((O:Int)*m>2^48)) || decide (m<0) || decide (m>m))=false:=by
  simp only[Bool.or_eq_false_iff,vP];omega
 rw[a5];simp only[rY,sI];refine Ay (x:=askRoom _) _ ?_;have a6:∀{Q:Unit->St->Prop}{X:Halt->St->Prop}(w:Nat),Q () (Ak E H S)->lp P (askRoom w) (Ak E H S) Q X:=by
  intro Q X w am;unfold askRoom;split;exact⟨.inl ⟨V,V⟩,am⟩;exact am
 refine a6 _ (Ay (x:=Go.sizeOf e) _ (FC a0 ?_));have ap:z.cells.size=pp.n:=by simpa using pp.len ac
 have fin:∀K:Av_,((Array.range (m.toNat*pp.n)).map (K[· % K.size]!)).toList=(List.replicate m.toNat z.cells.toList).flatten->lp P (do let a ← newRow e ((Array.range (m.toNat*pp.n)).map (K[· % K.size]!));pure (Value.slice (some a) m.toNat m.toNat)) (Ak E H S) (λa s'=>lp P (pure (Next.value a)) s' (λa7 s'=>match a7 with
   | .value v=>JL J Q b n (AA L d v) ds (.inRegion ops rest::k) cs s'
   | .skip=>JL J Q b n (AA L d undef) ds (.inRegion ops rest::k) cs s'
   | _=>False) (λ_ _=>False)) (λ_ _=>False):=by
  intro K a8;refine Ay _ _ (Kp a2 λr aq=>?_);rw[(F6 aq).1];have bo:((Array.range (m.toNat*pp.n)).map (K[· % K.size]!)).size=m.toNat*pp.n:=by simp
  have:=h r _ ⟨List.replicate m.toNat z.cells.toList,.inr ⟨r,_,rfl,rfl,by simp,by simp,by
   rw[a8,s4 (by rw[Rw];simp[ap])]⟩,by simp,λi y us Y hu=>by
    have:=r7 Y;have a9:=tP this
    have:=r7 hu;have e2:=tP this
    subst a9 e2;exact ac⟩ (F6 aq).2
  simp only[uv] at this;exact this
 split
 .rename_i bb;have al:m.toNat=0:=by rcases Nat.mul_eq_zero.1 bb with h | h<;>omega
  exact fin #[] (by simp[al])
 .refine Ay (x:=zeroValue e) _ (IB a1 ?_);refine fin z.cells ?_;rw[← ap];exact cf z.cells (by omega) _
theorem PT{pp:Rp α}(O:ops[i]?=some ⟨d,.buildSlice t 0 #[],ty,p,af,g⟩)(hw:A2 L ops ⟨d,.buildSlice t 0 #[],ty,p,af,g⟩=some true)(U:BZ b n ⟨d,.buildSlice t 0 #[],ty,p,af,g⟩=true)
  (Y:P.underlying t=some (.slice e)) (Z:BB P e=some pp.n) (ac:Av E H S)
  (h:∀r seg,OL e pp E (some ⟨r,0,none⟩) 0 seg []->Av E H (S++ [seg])->JL J Q b n (AA L d (.slice (some ⟨r,0,none⟩) 0 0)) ds (.inRegion ops rest::k) cs (Ak E H (S++ [seg]))):
  JL J Q b n L ds (.inRegion ops (i::rest)::k) cs (Ak E H S):=by
 refine JL.op O hw U λρ al=>?_;rw[Va];refine Ay _ _ ?_;unfold Instr.buildSlice;refine Ay _ _ (Cy Y ?_);refine Ay _ _ (FC Z ?_);rw[d0 (by omega),d6 (by omega)];refine Ay (x:=pure #[]) _ ?_;simp only[lp,pure,List.map_toArray,wb,Instr.fill];refine Ay _ _ (Kp ac λr K=>?_);rw[(F6 K).1];exact h r _ ⟨[],.inr ⟨r,_,V,V,by simp,rJ _,by simp⟩,V,λi x ws ag=>by simp at ag⟩ (F6 K).2
theorem Ao.rows{pp:Rp α}{a:Option Addr}{xs:List α}(U:Ao pp E a c xs):∃wss:List (Lv_),wss.length=xs.length/\(∀(i:Nat) x ws,xs[i]?=some x->wss[i]?=some ws->pp.r E ws x)/\
  ((xs=[]/\∀ad:Addr,a=some ad->ad.spot=none∨c=0)∨∃bk off,a=some ⟨bk,off,none⟩/\∀(i:Nat) ws,wss[i]?=some ws->At E bk (off+i*pp.n) ws):=by
 obtain⟨ag,U⟩:=U;rcases U with⟨rfl,Z⟩ | ⟨bk,off,rfl,ac⟩;exact⟨[],V,λi x ws O=>by simp at O,.inl ⟨V,Z⟩⟩
 .have Y:∀i:Fin xs.length,∃ws,pp.r E ws xs[i]/\At E bk (off+i*pp.n) ws:=λi=>ac i xs[i] (cT i.2);refine⟨List.ofFn λi=>Classical.choose (Y i),by simp,λi x ws O hw=>?_,.inr ⟨bk,off,V,λi ws hw=>?_⟩⟩;have K:i<xs.length:=(d7.1 O).1;simp[K] at hw;subst hw;rw[cT K] at O;cases O;exact(s6 (Y ⟨i,K⟩)).1
  .have K:i<xs.length:=by have:=(d7.1 hw).1;simpa using this
   simp[K] at hw;subst hw;exact(s6 (Y ⟨i,K⟩)).2
theorem NG{n:Nat}:∀{wss:List (Lv_)},(∀ws∈wss,ws.length=n)->wss.flatten.length=wss.length*n
 | [],_=>by simp
 | ws::wss,h=>by rw[su,rS,h ws (by simp),NG λw hw=>h w (f4 _ hw),r4,sT,vF]
theorem Rz{n:Nat}:∀{wss:List (Lv_)},(∀ws∈wss,ws.length=n)->∀{j:Nat}{w:Value},wss.flatten[j]?=some w->∃(i m:Nat) (ws:Lv_),wss[i]?=some ws/\ws[m]?=some w/\j=i*n+m
 | [],_,_,_,h=>by simp at h
 | us::wss,O,j,w,h=>by
  have hu:=O us (by simp)
  rw[su] at h
  rcases jH j us.length with K | K
  .rw [rQ K] at h
   exact⟨0,j,us,V,h,by simp⟩
  .rw [no K] at h;let⟨i,m,ws,U,Y,Z⟩:=Rz (λws hw=>O ws (f4 _ hw)) h;exact⟨i+1,m,ws,by simpa using U,Y,by rw[sT];omega⟩
theorem O4{pp:Rp α}{O:List (Lv_)}{xs ys:List α}(U:wss.length=xs.length)(h:∀(i:Nat) x ws,xs[i]?=some x->wss[i]?=some ws->pp.r E ws x)(Y:∀(i:Nat) x ws,ys[i]?=some x->O[i]?=some ws->pp.r E ws x):
  ∀(i:Nat) y us,(xs++ys)[i]?=some y->(wss++O)[i]?=some us->pp.r E us y:=by
 intro i y us K hu;rcases jH i xs.length with hi | hi;rw[rQ hi] at K;rw[rQ (by omega)] at hu;exact h i y us K hu;rw[no hi] at K;rw[no (by omega),U] at hu;exact Y _ y us K hu
theorem ZU{e t t1:TypeId}{id az l m:Nat}{a:Option Addr}{blk:List (Nat×Obj)}{xs ys:Lv_}{i:Nat}{rest:List Nat}{d:Option Tmp}{x y:Operand}{ty:TypeId}{p:String}{af:Ae_}{g:On_}{z:Value}{B1:List (Nat×Obj)}
  (a8:ops[i]?=some ⟨d,.call ⟨.builtin .append,#[x,y],ats⟩,ty,p,af,g⟩) (hw:A2 L ops ⟨d,.call ⟨.builtin .append,#[x,y],ats⟩,ty,p,af,g⟩=some true) (a9:BZ b n ⟨d,.call ⟨.builtin .append,#[x,y],ats⟩,ty,p,af,g⟩=true)
  (bb:ev L x=some (.slice a l c)) (be:ev L y=some (.slice ax m cx)) (bi:ats[0]?=some t) (bn:ats[1]?=some t1) (bo:P.underlying t=some (.slice e)) (bv:P.underlying t1=some (.slice e)) (bw:BB P e=some id) (hb:Gs P e=some az) (bx:zeroOf P e=some z) (bz:z.cells.size=id)
  (b0:0<az) (b1:az<=64) (b2:l+m<=2^40) (b3:∀w∈ys,C5 w=true) (av:GS e id a l c blk xs) (a0:Nd E H (B0++blk++B1)) (a1:IK (mk E H (B0++blk++B1)) (.slice ax m cx) id ys)
  (h:∀a5 aw a2,GS e id a5 (l+m) aw a2 (xs++ys)->Nd E H (B0++a2)->JL J Q b n (AA L d (.slice a5 (l+m) aw)) ds (.inRegion ops rest::k) cs (mk E H (B0++a2))):
  JL J Q b n L ds (.inRegion ops (i::rest)::k) cs (mk E H (B0++blk++B1)):=by
 refine JL.op a8 hw a9 λρ a6=>?_;rw[ND,a6 x _ bb,a6 y _ be];have b4:QE (B0++blk++B1) B0.length e id a l c xs:=by
  rcases av with⟨K,Y,al,am,ac⟩ | ⟨bk,f,K,Y,al,am,ac⟩;exact .inl ⟨K,Y,al,ac⟩;refine .inr ⟨bk,f,K,?_,al,am,ac⟩;subst Y;simp
 have hlen:=av.length;refine Ay _ _ (RN (pl:=B0.length) bi bn bv bo bw hb bx bz a0 b4 a1 b3 b0 b2 b1 ?_ ?_ ?_)
 ·
  intro bk f O ay ci co b5 a3 a4 ag;rcases av with⟨K,_⟩ | ⟨U,f0,K,Y,al,am,ac⟩;rw[K] at ay;cases ay
  .subst Y;have b6:U=bk:=by rw[K] at ay;simpa using ay
   subst b6;have ca:(B0++ [(U,Obj.cells f0 e (0,0))]++B1).set B0.length (U,.cells O e (0,0))=B0++ [(U,.cells O e (0,0))]++B1:=by
    rw[sb,sb];exact JW _ _ _ _
   rw[ca] at ag ⊢;have ap:Nd E H (B0++ [(U,.cells O e (0,0))]):=LQ.Nd.left ag;refine JL.drop (B0++ [(U,.cells O e (0,0))]) (λp aq=>?_) ag (h a c _ (.inr ⟨U,O,K,V,a3,b5,a4.symm⟩) ap);exact so.1 (sD _ aq)
 .intro a7 hm;rcases av with⟨K,Y,al,am,ac⟩ | ⟨U,f0,K,_⟩
  .subst hm;have cc:ys=[]:=by
    cases ax with
    | none=>exact a1.2
    | some ad=>have:=a1.2.1;simp at this;exact this
   subst Y am ac cc;have ap:Nd E H (B0++ []):=LQ.Nd.left a0;exact JL.drop (B0++ []) (λp aq=>so.1 (sD _ aq)) a0 (h none 0 [] (by simpa using GS.nil) ap)
  .rw [K] at a7;cases a7
 ·
  intro r O aw ce a3 a4 ag;have ap:Nd E H (B0++ [(r,.cells O e (0,0))]):=LQ.Nd.pick ag;refine JL.drop (B0++ [(r,.cells O e (0,0))]) (λp aq=>?_) ag (h (some ⟨r,0,none⟩) aw _ (.inr ⟨r,O,V,V,a3,ce,a4.symm⟩) ap);refine so.1 ?_;rcases kO.1 aq with q | q;simp[q];exact sc _ q
theorem JX{pp:Rp α}{t1:TypeId}{al:Nat}{a:Option Addr}{xs ys am:List α}{z:Value}(j:Nat)(Y:Ex xs ys=some am)
  (a2:ops[i]?=some ⟨d,.call ⟨.builtin .append,#[x,y],ats⟩,ty,p,af,g⟩) (hw:A2 L ops ⟨d,.call ⟨.builtin .append,#[x,y],ats⟩,ty,p,af,g⟩=some true) (a3:BZ b n ⟨d,.call ⟨.builtin .append,#[x,y],ats⟩,ty,p,af,g⟩=true)
  (a4:ev L x=some (.slice a xs.length c)) (a5:ev L y=some (.slice ax ys.length cx)) (a6:ats[0]?=some t) (a7:ats[1]?=some t1) (a8:P.underlying t=some (.slice e)) (a9:P.underlying t1=some (.slice e)) (bb:BB P e=some pp.n) (hb:Gs P e=some al) (be:zeroOf P e=some z) (bi:z.cells.size=pp.n)
  (bn:0<al) (bo:al<=64) (ap:OL e pp E a c seg xs) (av:Ao pp E ax cx ys) (bv:Av E H S) (aw:S[j]?=some seg)
  (h:∀Z ac seg',OL e pp E Z ac seg' am->Av E H (S.set j seg')->JL J Q b n (AA L d (.slice Z am.length ac)) ds (.inRegion ops rest::k) cs (Ak E H (S.set j seg'))):
  JL J Q b n L ds (.inRegion ops (i::rest)::k) cs (Ak E H S):=by
 unfold Ex at Y;split at Y
 rotate_left
 .cases Y
 rename_i bw;cases Y;obtain⟨wss,ap,ay,bx⟩:=ap;let⟨bz,az⟩:=HB bv aw;obtain⟨ag,O,aq,U⟩:=av.rows;have a0:=Je O aq;rw[bz];have b0:∀w∈ag.flatten,C5 w=true:=λw hw=>by
  let⟨us,b1,hw⟩:=tV.1 hw;let⟨q,K⟩:=so.1 b1;have b2:q<ys.length:=by rw[← O];exact(d7.1 K).1
  exact pp.one (aq q _ us (cT b2) K) w hw
 have hlen:(xs++ys).length=xs.length+ys.length:=by simp
 have a1:IK (mk E H ((S.set j []).flatten++seg)) (.slice ax ys.length cx) pp.n ag.flatten:=by
  rcases U with⟨U,cp⟩ | ⟨bk,off,rfl,U⟩
  .subst U;have:ag=[]:=sa O;subst this;cases ax with
   | none=>exact⟨rfl,rfl⟩
   | some ad=>exact⟨.inr rfl,by simp,sC _,λq w K=>by simp at K⟩
  .refine⟨.inl V,by rw[NG a0,O],av.1,λq w K=>?_⟩;let⟨b3,m,ws,b4,e2,b5⟩:=Rz a0 K;have:=(U b3 ws b4).cell (H:=H) (B:=(S.set j []).flatten++seg) e2;subst b5;rw[← t9];exact this
 have b6:(S.set j []).flatten++seg=(S.set j []).flatten++seg++ []:=(r9 _).symm;rw[b6] at az a1 ⊢;refine ZU a2 hw a3 a4 a5 a6 a7 a8 a9 bb hb be bi bn bo bw b0 ap az a1 λZ ac ca cc ce=>?_;let⟨ci,co⟩:=J3 aw ce;rw[ci];have:=h Z ac ca ⟨wss++ag,by rw[hlen,tC];exact cc,by simp[ay,O],O4 ay bx aq⟩ co;rw[hlen] at this;exact this
end
section
variable {b:Frame}{n m fuel:Nat}
variable {x:Operand}{v:Value}{i:Nat}
theorem Dy(h:Sub L' L)(k':A3 J Q b n ds ops k cs m D fuel listed L' s):A3 J Q b n ds ops k cs m D fuel listed L s:=λT K=>k' T (K.sub h)
theorem F5{O:Array Bool}(fuel:Nat)(listed:Array Bool)(I:Env->St->Prop)(U:∀L s,I L s->A3 J Q b n ds ops k cs m D fuel listed L s)(h:(∀L s,I L s->A3 J Q b n ds ops k cs m D fuel listed L s)->A3 J Q b n ds ops k cs m D K O L s):A3 J Q b n ds ops k cs m D K O L s:=h U
end
variable{kk:Nat}
theorem lV{pp:Rp α}{E:LH}{bk o:Nat}{ws:Lv_}{xs:List α}{m:Int}{x:α}(O:(rA kk pp).r E ws xs)(h:At E bk o ws)(hm:ix xs m=some x):∃us,pp.r E us x/\At E bk (o+m.toNat*pp.n) us/\0<=m/\m<kk:=by
 obtain⟨U,wss,rfl,Y,K⟩:=O;obtain⟨m,rfl,hm⟩:=F7 hm;have ag:m<xs.length:=(d7.1 hm).1;have hw:wss[m]?=some wss[m]:=cT (by omega);refine⟨wss[m],K m x _ hm hw,?_,by omega,by omega⟩;obtain⟨f,e,fr,Z,g2⟩:=h;refine⟨f,e,fr,Z,λj w ac=>?_⟩;rw[t9];exact g2 _ _ (LK (Je (Y.trans U.symm) K) hw j w ac)
variable {v':Value}
section
variable {x:Operand}{v:Value}
end
section
variable {b:Frame}{n:Nat}
variable {x:Operand}{i:Nat}
end
variable{X:Halt->St->Prop}
section
variable {x:Operand}{v:Value}
theorem bH{o:BinOp}{c K:Av_}(O:o=.eql∨o=.neq)(U:P.eqGuardType P.depth t=false){Q:Unit->St->Prop}(k:Q () s):lp P (eqGuard o t x y (.agg c) (.agg K)) s Q X:=by
 rcases O with rfl | rfl<;>(simp[eqGuard,lp,bind,Sem.bind,program,pure,U];exact k)
end
section
variable (J:Judge P)(Q:Gs_)(b:Frame)(n:Nat)(ds:Ld_)(ops:Ao_)(k:Li_)(cs:Lf_)(m:Nat)(D:Nat->Bool)
def Take(fuel:Nat)(listed:Array Bool)(L:Env)(s:St)(i:Nat):Prop:=
 ∃o,ops[i]?=some o/\(!EN o.op)=true/\Bz n o.dst=true/\A2 L ops o=some true/\∀ρ,Ft L ρ->lp P (execOp ρ o) (BC D s) (λO s'=>match O with
  | .value v=>A3 J Q b n ds ops k cs m D fuel (Bp listed i) (AA L o.dst v) (CG D s s')
  | .skip=>A3 J Q b n ds ops k cs m D fuel (Bp listed i) (AA L o.dst undef) (CG D s s')
  | .enter f args=>∃R,Fj J f args (CG D s s') R/\∀v K,R v K->K.q=false/\(∀x o,(BC D s).E x=some o->(BC D K).E x=some o)/\A3 J Q b n ds ops k cs m D fuel (Bp listed i) (AA L o.dst v) K
  | _=>False) (λ_ _=>False)
end
section
variable {b:Frame}{n m fuel:Nat}
variable {x:Operand}{v:Value}{i:Nat}
theorem RI(U:s.q=false){l:List Nat}(K:Region.ready .any ops listed=l)(Y:l≠ [])(h:∀i∈l,Take J Q b n ds ops k cs m D fuel listed L s i):A3 J Q b n ds ops k cs m D (fuel+1) listed L s:=
 V7 U (by rw[K];exact Y) λi hi o O=>by
  rw[K] at hi
  let⟨o',Z,ac,ag,al,am⟩:=h i hi
  obtain rfl:o'=o:=by rw[Z] at O;exact f6 O
  exact⟨ac,ag,true,al,λe=>(by cases e),λ_=>am⟩
theorem JG.one(K:s.q=false)(O:Region.ready .any ops listed=[i])(h:Take J Q b n ds ops k cs m D fuel listed L s i):A3 J Q b n ds ops k cs m D (fuel+1) listed L s:=
 RI K O (by simp) (by simpa using h)
theorem GU{i:Nat}(K:s.q=false)(O:Region.ready .any ops listed=[i,j])(hi:Take J Q b n ds ops k cs m D fuel listed L s i)(U:Take J Q b n ds ops k cs m D fuel listed L s j):A3 J Q b n ds ops k cs m D (fuel+1) listed L s:=
 RI K O (by simp) (by intro q K;simp at K;rcases K with rfl | rfl<;>assumption)
end
theorem OL.lO{e:TypeId}{pp:Rp α}{E H:LH}{S:List Seg}{a:Option Addr}{xs:List α}(U:OL e pp E0 a c seg xs)(ac:Av E H S)(ag:S[j]?=some seg):∃wss:List (Lv_),IK (Ak E H S) (.slice a xs.length c) pp.n wss.flatten/\wss.length=xs.length/\∀(i:Nat) x ws,xs[i]?=some x->wss[i]?=some ws->pp.r E0 ws x:=by
 obtain⟨wss,U,al,am⟩:=U;refine⟨wss,?_,al,am⟩;rcases U with⟨rfl,ap,Z,Y,K⟩ | ⟨bk,f,rfl,rfl,Z,Y,K⟩;exact⟨ap,K⟩
 .have hle:xs.length*pp.n<=f.size:=by rw[Z];exact sH _ Y
  refine⟨.inl V,by rw[K];simp[hle],Y,λq w O=>?_⟩;rw[K,ta] at O;split at O;refine B8 ac ag ?_;simpa using O;cases O
section
variable {x:Operand}
theorem gz{ρ:Operand->Value}{K:Next->St->Prop}{pp:Rp α}{t1:TypeId}{a1:Nat}{a:Option Addr}{xs ys a2:List α}{z:Value}(j:Nat)(ay:Ex xs ys=some a2)
  (bn:ρ x=.slice a xs.length c) (bo:ρ y=.slice ax ys.length cx) (bv:ats[0]?=some t) (bw:ats[1]?=some t1) (bx:P.underlying t=some (.slice e)) (bz:P.underlying t1=some (.slice e)) (b0:BB P e=some pp.n) (hb:Gs P e=some a1) (b1:zeroOf P e=some z) (b2:z.cells.size=pp.n)
  (b3:0<a1) (b4:a1<=64) (av:OL e pp E0 a c seg xs) (b5:∃Z:List (Lv_),IK (Ak E H S) (.slice ax ys.length cx) pp.n Z.flatten/\Z.length=ys.length/\∀(i:Nat) x ws,ys[i]?=some x->Z[i]?=some ws->pp.r E0 ws x) (b6:Av E H S) (a8:S[j]?=some seg)
  (h:∀Y O g seg',OL e pp E0 Y O seg' a2->Av E H (S.set j (g++seg'))->K (.value (.slice Y a2.length O)) (Ak E H (S.set j (g++seg')))):
  lp P (execOp ρ ⟨d,.call ⟨.builtin .append,#[x,y],ats⟩,ty,p,af,g⟩) (Ak E H S) K (λ_ _=>False):=by
 unfold Ex at ay;split at ay
 rotate_left
 .cases ay
 rename_i ca;cases ay;obtain⟨Z,a9,az,a3⟩:=b5;obtain⟨wss,av,bb,cc⟩:=av;let⟨ce,a4⟩:=HB b6 a8;have ci:=Je az a3;have co:∀w∈Z.flatten,C5 w=true:=λw hw=>by
  let⟨us,cp,hw⟩:=tV.1 hw;let⟨q,be⟩:=so.1 cp;have ct:q<ys.length:=by rw[← az];exact(d7.1 be).1
  exact pp.one (a3 q _ us (cT ct) be) w hw
 have hlen:(xs++ys).length=xs.length+ys.length:=by simp
 rw[ce] at a9 ⊢;rw[ND,bn,bo];have a5:∀{Y O seg'},GS e pp.n Y (xs.length+ys.length) O seg' (wss.flatten++Z.flatten)->OL e pp E0 Y O seg' (xs++ys):=λcw=>
  ⟨wss++Z,by rw[hlen,tC];exact cw,by simp[bb,az],O4 bb cc a3⟩
 have fin:∀Y O g seg',OL e pp E0 Y O seg' (xs++ys)->Nd E H ((S.set j []).flatten++(g++seg'))->K (.value (.slice Y (xs.length+ys.length) O)) (mk E H ((S.set j []).flatten++(g++seg'))):=λY O g seg' cy ag=>by
  let⟨c0,c1⟩:=J3 a8 ag;rw[c0];have:=h Y O g seg' cy c1;rw[hlen] at this;exact this
 have c2:QE ((S.set j []).flatten++seg) (S.set j []).flatten.length e pp.n a xs.length c wss.flatten:=by
  rcases av with⟨U,ac,aw,am,ap⟩ | ⟨bk,f,U,ac,aw,am,ap⟩;exact .inl ⟨U,ac,aw,ap⟩;refine .inr ⟨bk,f,U,?_,aw,am,ap⟩;subst ac;simp
 refine Ay _ _ (RN (pl:=(S.set j []).flatten.length) bv bw bz bx b0 hb b1 b2 a4 c2 a9 co b3 ca b4 ?_ ?_ ?_)
 .intro bk f al a0 c9 dd c3 a6 a7 ag;rcases av with⟨U,_⟩ | ⟨aq,f0,U,ac,aw,am,ap⟩;rw[U] at a0;cases a0
  .subst ac;have c4:aq=bk:=by rw[U] at a0;simpa using a0
   subst c4;have c5:((S.set j []).flatten++ [(aq,Obj.cells f0 e (0,0))]).set (S.set j []).flatten.length (aq,.cells al e (0,0))=(S.set j []).flatten++ [(aq,.cells al e (0,0))]:=JW _ _ _ _;rw[c5] at ag ⊢;exact fin a c [] _ (a5 (.inr ⟨aq,al,U,V,a6,c3,a7.symm⟩)) ag
 intro bi hm;rcases av with⟨U,ac,aw,am,ap⟩ | ⟨aq,f0,U,_⟩;have c6:Z.flatten=[]:=sa (by rw[NG ci,az,hm];simp);have:=fin none 0 [] [] (a5 (by rw[ac,hm,ap,c6];exact GS.nil)) (by rw[am] at a4;simpa using a4);rw[ac,hm] at this;rw[am];simp only[r9] at this ⊢;exact this;rw[U] at bi;cases bi;intro r al O c7 a6 a7 ag;have c8:(S.set j []).flatten++seg++ [(r,Obj.cells al e (0,0))]=(S.set j []).flatten++(seg++ [(r,.cells al e (0,0))]):=sb _ _ _;rw[c8] at ag ⊢;exact fin (some ⟨r,0,none⟩) O seg _ (a5 (.inr ⟨r,al,V,V,a6,c7,a7.symm⟩)) ag
theorem ez{ρ:Operand->Value}{K:Next->St->Prop}{pp:Rp α}{t1:TypeId}{id:Nat}{a:Option Addr}{Y:Seg}{xs ys U:List α}{z:Value}(j al:Nat)(am:Ex xs ys=some U)
  (ap:ρ x=.slice a xs.length c) (aq:ρ y=.slice ax ys.length cx) (av:ats[0]?=some t) (aw:ats[1]?=some t1) (ay:P.underlying t=some (.slice e)) (az:P.underlying t1=some (.slice e)) (a0:BB P e=some pp.n) (hb:Gs P e=some id) (a1:zeroOf P e=some z) (a2:z.cells.size=pp.n)
  (a3:0<id) (a4:id<=64) (a5:OL e pp E0 a c seg xs) (a6:OL e pp E0 ax cx Y ys) (Z:Av E H S) (a7:S[j]?=some seg) (a8:S[al]?=some Y)
  (h:∀ac ag g seg',OL e pp E0 ac ag seg' U->Av E H (S.set j (g++seg'))->K (.value (.slice ac U.length ag)) (Ak E H (S.set j (g++seg')))):
  lp P (execOp ρ ⟨d,.call ⟨.builtin .append,#[x,y],ats⟩,ty,p,af,g⟩) (Ak E H S) K (λ_ _=>False):=
 gz j am ap aq av aw ay az a0 hb a1 a2 a3 a4 a5 (a6.lO Z a8) Z a7 h
end
section
variable {b:Frame}{n m fuel:Nat}
variable {x:Operand}{v:Value}{i:Nat}
end
section
variable {b:Frame}{n m fuel:Nat}
variable {x:Operand}{v:Value}{i:Nat}
theorem Take.OD(hi:ops[i]?=some oi)(K:(!EN oi.op&&Bz n oi.dst)=true)(hw:A2 L ops oi=some true)
  (h:∀ρ,Ft L ρ->lp P (execOp ρ oi) s (λO s'=>match O with
   | .value v=>A3 J Q b n ds ops k cs m Ec fuel (Bp listed i) (AA L oi.dst v) s'
   | .skip=>A3 J Q b n ds ops k cs m Ec fuel (Bp listed i) (AA L oi.dst undef) s'
   | _=>False) (λ_ _=>False)):Take J Q b n ds ops k cs m Ec fuel listed L s i:=by
 simp only[f5] at K
 refine⟨oi,hi,K.1,K.2,hw,λρ Y=>Es _ (h ρ Y) ?_ (λ_ _ h=>h)⟩
 intro O s' U
 cases O with
 | value v=>exact U
 | skip=>exact U
 | _=>exact U.elim
theorem Take.FO{pp:Rp α}{id:Nat}(vs:Lv_){z:Value}(xs:List α)(K:Av E H S)
  (O:ops[i]?=some ⟨d,.buildSlice t id ps,ty,p,af,g⟩) (hw:A2 L ops ⟨d,.buildSlice t id ps,ty,p,af,g⟩=some true) (U:Bz n d=true)
  (Y:P.underlying t=some (.slice e)) (Z:BB P e=some pp.n) (ac:zeroOf P e=some z) (ag:decide (0<id*pp.n/\id*pp.n<=2^24)=true)
  (al:ps.toList.mapM (λq=>(ev L q.2).map λv=>(q.1,v))=some ((vs.zipIdx 0).map λq=>(q.2,q.1)))
  (am:vs.length=id) (ap:xs.length=id) (aq:Ml pp E xs vs)
  (h:∀r seg,OL e pp E (some ⟨r,0,none⟩) id seg xs->Av E H (S++ [seg])->A3 J Q b n ds ops k cs m Ec fuel (Bp listed i) (AA L d (.slice (some ⟨r,0,none⟩) xs.length id)) (Ak E H (S++ [seg]))):
  Take J Q b n ds ops k cs m Ec fuel listed L (Ak E H S) i:=
 Take.OD O (by simp[EN,U]) hw λρ av=>XP av vs xs Y Z ac ag al am ap aq K λr seg aw ay=>h r seg aw ay
theorem Take.app0{pp:Rp α}{t1:TypeId}{id:Nat}{a:Option Addr}{Z:Seg}{xs ys Y:List α}{z:Value}(j ac:Nat)(al:Av E H S)(am:Ex xs ys=some Y)
  (ap:ops[i]?=some ⟨d,.call ⟨.builtin .append,#[x,y],ats⟩,ty,p,af,g⟩) (hw:A2 L ops ⟨d,.call ⟨.builtin .append,#[x,y],ats⟩,ty,p,af,g⟩=some true) (aq:Bz n d=true)
  (av:ev L x=some (.slice a xs.length c)) (aw:ev L y=some (.slice ax ys.length cx)) (ay:ats[0]?=some t) (az:ats[1]?=some t1) (a0:P.underlying t=some (.slice e)) (a1:P.underlying t1=some (.slice e)) (a2:BB P e=some pp.n) (hb:Gs P e=some id) (a3:zeroOf P e=some z) (a4:z.cells.size=pp.n)
  (a5:0<id) (a6:id<=64) (a7:OL e pp E a c seg xs) (a8:OL e pp E ax cx Z ys) (a9:S[j]?=some seg) (bb:S[ac]?=some Z)
  (h:∀K O g seg',OL e pp E K O seg' Y->Av E H (S.set j (g++seg'))->A3 J Q b n ds ops k cs m Ec fuel (Bp listed i) (AA L d (.slice K Y.length O)) (Ak E H (S.set j (g++seg')))):
  Take J Q b n ds ops k cs m Ec fuel listed L (Ak E H S) i:=
 Take.OD ap (by simp[EN,aq]) hw λρ ag=>ez j ac am (ag _ _ av) (ag _ _ aw) ay az a0 a1 a2 hb a3 a4 a5 a6 a7 a8 al a9 bb λK O be seg' bi bn=>h K O be seg' bi bn
theorem Take.Kw{z:Value}(O:Av E H S)(U:ops[i]?=some ⟨d,.alloc e,ty,p,af,g⟩)(hw:A2 L ops ⟨d,.alloc e,ty,p,af,g⟩=some true)(Y:Bz n d=true)(Z:zeroOf P e=some z)
  (h:∀r,Av E H (S++ [[(r,.cells z.cells e (0,0))]])->A3 J Q b n ds ops k cs m Ec fuel (Bp listed i) (AA L d (.pointer (some ⟨r,0,none⟩))) (Ak E H (S++ [[(r,.cells z.cells e (0,0))]]))):
  Take J Q b n ds ops k cs m Ec fuel listed L (Ak E H S) i:=
 Take.OD U (by simp[EN,Y]) hw λρ _=>by
  show lp P (do pure (Next.value (← Instr.alloc e true (.tuple #[])))) _ _ _
  refine Ay _ _ ?_
  unfold Instr.alloc
  refine Ay _ _ (IB Z ?_)
  refine Ay _ _ (Kp O λr K=>?_)
  rw[(F6 K).1]
  exact h r (F6 K).2
end
theorem Cb{pp:Rp α}{E:LH}{ws:Lv_}{xs:List α}(K:(rA kk pp).r E ws xs):ws.length=kk*pp.n:=(rA kk pp).len K
theorem ID{pp:Rp α}{E:LH}{ws:Lv_}{xs:List α}{m:Int}{x:α}(O:(rA kk pp).r E ws xs)(hm:ix xs m=some x):∃us,pp.r E us x/\0<=m/\m<kk/\(∀j w,us[j]?=some w->ws[m.toNat*pp.n+j]?=some w):=by
 obtain⟨U,wss,rfl,Y,K⟩:=O;obtain⟨m,rfl,hm⟩:=F7 hm;have ac:m<xs.length:=(d7.1 hm).1;have hw:wss[m]?=some wss[m]:=cT (by omega);exact⟨wss[m],K m x _ hm hw,by omega,by omega,λj w Z=>LK (Je (Y.trans U.symm) K) hw j w Z⟩
section
variable {b:Frame}{n:Nat}
variable {x:Operand}{i:Nat}
theorem H0{pp:Rp α}{a:Addr}{ws:Lv_}{xs:List α}(K:(rA kk pp).r E ws xs)(O:DY P t=some true)(U:BB P t=some (kk*pp.n))(Y:ρ x=.pointer (some a))(h:∀j v,ws[j]?=some v->s.cell? (a.add j)=some v):Yl P ⟨d,.load t x,ty,p,af,g⟩ ρ s (.agg ws.toArray):=
 Jc O (by rw[Cb K];exact U) Y h
theorem XJ{pp:Rp α}{ws:Lv_}{xs:List α}{xv:α}{m:Int}{wr:Bool}(Y:(rA kk pp).r E ws xs)(hm:ix xs m=some xv)
  (aq:ops[i]?=some ⟨d,.index t x y,ty,p,af,g⟩) (hw:A2 L ops ⟨d,.index t x y,ty,p,af,g⟩=some true) (av:BZ b n ⟨d,.index t x y,ty,p,af,g⟩=true)
  (aw:ev L x=some (.agg ws.toArray)) (ay:ev L y=some (.int kd m)) (az:P.underlying t=some (.array kk e)) (Z:BB P e=some pp.n) (a0:DY P e=some wr)
  (h:∀us,pp.r E us xv->JL J Q b n (AA L d (if wr then .agg us.toArray else us.headD undef)) ds (.inRegion ops rest::k) cs s) (a1:wr=false->pp.n=1):
  JL J Q b n L ds (.inRegion ops (i::rest)::k) cs s:=by
 let⟨us,ac,a2,a3,ag⟩:=ID Y hm;have hlen:=pp.len ac;have a4:=Cb Y;refine Bi aq hw av (λρ al=>?_) (h us ac);refine FY (sm:=Instr.index t (ρ x) (ρ y)) V ?_;rw[al _ _ aw,al _ _ ay];unfold Instr.index;simp only[asIntOf,I6];refine Ay (x:=underlying t) _ (Cy az ?_);simp only[a2,a3,wd,sO];refine Ay (x:=Go.sizeOf e) _ (FC Z ?_);unfold Go.part;refine Ay (x:=isAgg e) _ (Pe a0 ?_);have a6:m.toNat*pp.n+pp.n<=ws.length:=by
  rw[a4];have:(m.toNat+1)*pp.n<=kk*pp.n:=sH _ (by omega);rw[sT] at this;exact this
 cases wr with
 | true=>
  simp only[sO];refine Ay (x:=Go.sizeOf e) _ (FC Z ?_);have a5:ws.toArray.extract (m.toNat*pp.n) (m.toNat*pp.n+pp.n)=us.toArray:=by
   apply sK;intro j;by_cases am:j<us.length;have U:=ag j us[j] (cT am);simp only[uX,tS,si];rw[d6 (by omega),U];simp[am];rw[rZ (by simp;omega),rZ (by simp;omega)]
  rw[a5];exact⟨V,V⟩
 | false=>
  have ap:=a1 V;obtain⟨w,rfl⟩:∃w,us=[w]:=by
   match us,hlen with
   | [w],_=>exact⟨w,rfl⟩
   | [],K=>rw[ap] at K;cases K
   | _::_::_,K=>rw[ap] at K;simp at K
  have U:=ag 0 w V;simp only[rY,sI,si];rw[sY] at U;rw[U];exact⟨V,V⟩
end
def H7(S:List Seg):List Nat->Prop
 | []=>True
 | bk::bks=>(∃(j:Nat) (o:Obj),S[j]?=some [(bk,o)])/\H7 S bks
theorem H7.mem{S:List Seg}:∀{bks:List Nat},H7 S bks->∀bk∈bks,∃(j:Nat) (o:Obj),S[j]?=some [(bk,o)]
 | [],_,_,h=>by cases h
 | b::bks,h,bk,hb=>by
  rcases iC.1 hb with rfl | hb;exact h.1;exact h.2.mem bk hb
variable{bks:List Nat}
theorem H7.free{E H:LH}{S:List Seg}(h:H7 S bks)(K:Av E H S):∀x,AG bks x=true->E x=none:=λx O=>by
 obtain⟨j,o,U⟩:=h.mem x (by simpa [AG] using O)
 exact QA K U
variable{s':St}
section
variable {b:Frame}{n m fuel:Nat}
variable {x:Operand}{v:Value}{i:Nat}
theorem dU{f:FuncId}{vs:Lv_}(am:H7 S bks)(ap:AZ J f vs E [] R)(aq:Region.ready .any ops listed=[i])
  (av:ops[i]?=some ⟨d,.call ⟨.value (.func f),args,ats⟩,ty,p,af,g⟩) (aw:Bz n d=true) (hw:A2 L ops ⟨d,.call ⟨.value (.func f),args,ats⟩,ty,p,af,g⟩=some true) (hb:El P f=true) (ay:evs L args.toList=some vs) (Z:Av E H S)
  (az:∀v E' seg',Le E E'->R v E' seg'->Av E' H (S++ [seg'])->A3 J Q b n ds ops k cs m (AG bks) fuel (Bp listed i) (AA L d v) (Ak E' H (S++ [seg']))):
  A3 J Q b n ds ops k cs m (AG bks) (fuel+1) listed L (Ak E H S):=by
 have a0:=Fj.Mk (ap (By S.flatten H) trivial) (by rintro v s' ⟨E',B',_,_,_,rfl⟩;rfl);refine A3.call V aq av aw hw hb ay a0 ?_;rintro v a8 ⟨⟨E',B',hle,a1,a2,rfl⟩,w,a3⟩;have e2:mk E' (By S.flatten H) B'=mk E' H (B'++S.flatten):=by unfold mk;rw[Gm]
 have a4:Nd E' H S.flatten:=Nd.grow Z λx O=>by
  have a5:=a3.d x O;have U:By B' (By S.flatten H) x=none:=a5;exact(IA U).1
 have ac:Nd E' H (B'++S.flatten):=Nd.glue a2 a4;have ag:(B'++S.flatten).Perm (S++ [B']).flatten:=by rw[Hz];exact r0
 have al:Av E' H (S++ [B']):=Nd.perm ac ag;rw[e2,FK ac ag];refine⟨V,λx o O=>?_,az v E' B' hle a1 al⟩;by_cases hd:AG bks x=true
 .obtain⟨j,o',Y⟩:=am.mem x (by simpa [AG] using hd);have U:(Ak E H S).get x=some o':=Ed (i:=0) Z Y V;have a6:j<S.length:=(d7.1 Y).1;have a7:(Ak E' H (S++ [B'])).get x=some o':=Ed (i:=0) al (by rw[rQ a6];exact Y) rfl;have K:(if AG bks x then(Ak E H S).get x else E x)=some o:=O
  show(if AG bks x then(Ak E' H (S++ [B'])).get x else E' x)=some o
  rw[d6 hd] at K ⊢;rw[a7,← U];exact K
 .have K:(if AG bks x then(Ak E H S).get x else E x)=some o:=O
  show(if AG bks x then(Ak E' H (S++ [B'])).get x else E' x)=some o
  rw[d0 hd] at K ⊢;exact hle _ _ K
theorem cO(m:Nat)(bks:List Nat){id:Nat}(U:H7 S bks)(Y:Av E H S)(hm:P.follows .mixedOrders=true)(K:(b.kind != .early)=true)(O:EC ops m=true)
  (h:EC ops m=true->A3 J Q b n ds ops k cs m (AG bks) ops.size (Array.replicate ops.size false) L (Ak E H S)):JL J Q b n L ds (.code (.region id ops true)::k) cs (Ak E H S):=
 R6 m (AG bks) V hm K (h O)
theorem BQ{bk o:Nat}{c:Av_}{f:Nat×Nat}(j:Nat)(K:Av E H S)(O:S[j]?=some [(bk,.cells c e f)])(U:AG bks bk=true)(Y:∀x o,(BC (AG bks) (Ak E H S)).E x=some o->s'.E x=some o)(hw:c[o]?=some w):s'.cell? ⟨bk,o,none⟩=some w:=by
 have Z:(BC (AG bks) (Ak E H S)).E bk=some (.cells c e f):=by
  show(if AG bks bk then(Ak E H S).get bk else E bk)=_
  rw[d6 U];exact Ed (i:=0) K O V
 have ac:=Y _ _ Z;unfold St.cell? St.get;rw[ac];exact hw
theorem Yf(O:Av E H S)(U:∀x o,(BC (AG bks) (Ak E H S)).E x=some o->s'.E x=some o)(Y:H7 S bks):∀x o,E x=some o->s'.E x=some o:=λx o K=>U x o (by
 show(if AG bks x then(Ak E H S).get x else E x)=some o
 rw[d0 (λhd=>by rw[Y.free O x hd] at K;cases K)];exact K)
end
theorem df{P:Program}{s:St}{ρ:Operand->Value}{x y:Operand}{d:Option Tmp}{t ty e:TypeId}{p:String}{af:Ae_}{g:On_}{kd:IntKind}{xs:List α}{xv:α}{m:Int}{bk:Nat}(hm:ix xs m=some xv)(O:P.underlying t=some (.slice e))(U:BB P e=some K)(Y:ρ x=.slice (some ⟨bk,0,none⟩) xs.length c)(Z:ρ y=.int kd m):
  Yl P ⟨d,.indexAddr t x y,ty,p,af,g⟩ ρ s (.pointer (some ⟨bk,m.toNat*K,none⟩)):=by
 obtain⟨m,rfl,hm⟩:=F7 hm;have ac:m<xs.length:=(d7.1 hm).1;have:=NI (P:=P) (s:=s) (d:=d) (ty:=ty) (p:=p) (af:=af) (g:=g) O U Y Z ⟨by omega,by omega⟩;rw[Et rfl] at this;simpa using this
def Jx(ws:Lv_)(q:Nat)(us:Lv_):Lv_:=(Bc ws.toArray q us).toList
theorem Pn{ws us:Lv_}{q:Nat}(h:q+us.length<=ws.length)(j:Nat):(Jx ws q us)[j]?=if q<=j/\j<q+us.length then us[j - q]? else ws[j]? :=by
 unfold Jx;rw[sM,LS us _ q (by simpa using h)];simp
variable{l:Lv_}
theorem ZH{ws us:Lv_}{q:Nat}(h:q+us.length<=ws.length):Bc (l++ws).toArray (l.length+q) us=(l++Jx ws q us).toArray:=by
 apply sK;intro j;rw[LS us _ _ (by simp;omega)];simp only[si];by_cases O:l.length+q<=j/\j<l.length+q+us.length;rw[d6 O,no (by omega),Pn h,d6 (by omega)];congr 1;omega;rw[d0 O];rcases jH j l.length with K | K;rw[rQ K,rQ K];rw[no K,no K,Pn h,d0 (by omega)]
theorem JU{ws us:Lv_}(h:us.length=ws.length):Jx ws 0 us=us:=by
 apply s9;intro j;rw[Pn (by omega)];split;simp;rename_i K;rw[sd (by omega),sd (by omega)]
theorem Hh{E H:LH}{S:List Seg}{bk:Nat}{ws:Lv_}{e:TypeId}{f:Nat×Nat}(j:Nat)(K:Av E H S)(O:S[j]?=some [(bk,.cells (l++ws).toArray e f)]):∀q v,ws[q]?=some v->(Ak E H S).cell? (Addr.add ⟨bk,l.length,none⟩ q)=some v:=λq v U=>by
 rw[Et rfl]
 refine B8 K O ?_
 simp only[si]
 rw[no (by omega)]
 rw[show l.length+q - l.length=q by omega];exact U
theorem Kq{E H:LH}{S:List Seg}{bk o:Nat}{ws:Lv_}{e:TypeId}{f:Nat×Nat}(j:Nat)(K:Av E H S)(O:S[j]?=some [(bk,.cells (l++ws).toArray e f)])(U:ws[o]?=some w):(Ak E H S).cell? ⟨bk,l.length+o,none⟩=some w:=by
 have:=Hh j K O o w U
 rwa[Et rfl] at this
theorem QB{pp:Rp α}{E:LH}{ws us:Lv_}{xs:List α}{m:Int}{x y:α}(Z:(rA kk pp).r E ws xs)(hm:ix xs m=some x)(hu:pp.r E us y):(rA kk pp).r E (Jx ws (m.toNat*pp.n) us) (xs.set m.toNat y)/\m.toNat*pp.n+us.length<=ws.length:=by
 have aw:=Cb Z;obtain⟨ac,wss,rfl,ag,al⟩:=Z;obtain⟨m,rfl,hm⟩:=F7 hm;have ay:m<xs.length:=(d7.1 hm).1;have am:=pp.len hu;have az:=Je (ag.trans ac.symm) al;have ap:m*pp.n+us.length<=wss.flatten.length:=by
  rw[aw,am];have:(m+1)*pp.n<=kk*pp.n:=sH _ (by omega);rw[sT] at this;exact this
 simp only[sJ];refine⟨⟨by simpa using ac,wss.set m us,?_,by simpa using ag,λi a0 a1 O U=>?_⟩,ap⟩
 .apply s9;intro j;rw[Pn ap];have key:∀(wss:List (Lv_)) (m:Nat) (hm:m<wss.length),(∀ws∈wss,ws.length=pp.n)->∀j,(wss.set m us).flatten[j]?=if m*pp.n<=j/\j<m*pp.n+us.length then us[j - m*pp.n]? else wss.flatten[j]? :=by
   intro wss
   induction wss with
   | nil=>intro m hm;simp at hm
   | cons vs wss a2=>
    intro m hm aq j;have a3:vs.length=pp.n:=aq vs (by simp);cases m with
    | zero=>
     simp only[ul,su,tY,sC,wh,tx,tO];split;rename_i K;rw[rQ K];rename_i K;rw[no (by omega),no (by omega),am,a3]
    | succ m=>
     simp only[uI,su];have Y:(m+1)*pp.n=m*pp.n+pp.n:=sT _ _;rcases jH j vs.length with K | K;rw[rQ K,rQ K,d0 (by omega)];rw[no K,no K,a2 m (by simpa using hm) (λws a4=>aq ws (f4 _ a4))];by_cases av:m*pp.n<=j - vs.length/\j - vs.length<m*pp.n+us.length;rw[d6 av,d6 (by omega)];congr 1;omega;rw[d0 av,d0 (by omega)]
  exact(key wss m (by omega) az j).symm
 .rw [tp] at O U;by_cases Y:m=i;subst Y;rw[d6 rfl,d6 ay] at O;rw[d6 rfl,d6 (by omega)] at U;cases O;cases U;exact hu;rw[d0 Y] at O U;exact al i a0 a1 O U
theorem GG{pp:Rp α}{E:LH}{x:α}(h:pp.r E [w] x):(rA kk pp).r E (List.replicate kk w) (List.replicate kk x):=by
 refine⟨by simp,List.replicate kk [w],?_,by simp,λi y us K hu=>?_⟩
 .induction kk with
  | zero=>rfl
  | succ k O=>rw[uD,uD,su,← O];rfl
 .have U:=tP (r7 K);have e2:=tP (r7 hu);subst U e2;exact h
section
variable {b:Frame}{n:Nat}
variable {x:Operand}{i:Nat}
theorem Kr{pp:Rp α}{ws:Lv_}{xs:List α}{xv:α}{m:Int}{bk o:Nat}(K:(rA kk pp).r E ws xs)(hm:ix xs m=some xv)(O:P.underlying t=some (.array kk e))(U:BB P e=some pp.n)(Y:ρ x=.pointer (some ⟨bk,o,none⟩))(Z:ρ y=.int kd m):
  Yl P ⟨d,.indexAddr t x y,ty,p,af,g⟩ ρ s (.pointer (some ⟨bk,o+m.toNat*pp.n,none⟩)):=by
 let⟨us,al,ac,ag,am⟩:=ID K hm;have:=Vd (P:=P) (s:=s) (d:=d) (ty:=ty) (p:=p) (af:=af) (g:=g) O U Y Z ⟨ac,ag⟩;rw[Et rfl] at this;exact this
theorem Hx{bk o:Nat}{ws us:Lv_}{v:Value}(j:Nat)(U:ops[i]?=some ⟨d,.store t x y,ty,p,af,g⟩)(hw:A2 L ops ⟨d,.store t x y,ty,p,af,g⟩=some true)(Y:BZ b n ⟨d,.store t x y,ty,p,af,g⟩=true)(Z:Av E H S)
  (ac:ev L x=some (.pointer (some ⟨bk,l.length+o,none⟩))) (ag:ev L y=some v) (K:v.cells.toList=us) (al:BB P t=some us.length) (am:∀u∈us,C5 u=true) (ap:S[j]?=some [(bk,.cells (l++ws).toArray e (0,0))]) (hle:o+us.length<=ws.length)
  (h:Av E H (S.set j [(bk,.cells (l++Jx ws o us).toArray e (0,0))])->JL J Q b n (AA L d undef) ds (.inRegion ops rest::k) cs (Ak E H (S.set j [(bk,.cells (l++Jx ws o us).toArray e (0,0))]))):
  JL J Q b n L ds (.inRegion ops (i::rest)::k) cs (Ak E H S):=by
 have aq:v.cells.size=us.length:=by rw[← K];simp
 refine JS.store (v:=v) (off:=l.length+o) j U hw Y Z ac ag (by rw[aq];exact al) (by rw[K];exact am) ap (by simp;omega) λO=>?_;rw[K,ZH hle] at O ⊢;exact h O
end
section
variable {x:Operand}{v:Value}
theorem Xn{n:Nat}{kd:IntKind}{a b:Int}(K:P.underlying t=some (.int kd)){Q:Bool->St->Prop}(k:Q (a==b) s):lp P (Op.equalIn (n+1) t (.int kd a) (.int kd b)) s Q X:=by
 unfold Op.equalIn;refine Ay _ _ (Cy K ?_);simp only[sO];exact k
end
theorem Vi{E H:LH}{S:List Seg}{bk:Nat}{ws:Lv_}{e:TypeId}{f:Nat×Nat}(j:Nat)(K:Av E H S)(O:S[j]?=some [(bk,.cells (l++ws).toArray e f)])(U:AG bks bk=true)(Y:∀x o,(BC (AG bks) (Ak E H S)).E x=some o->s'.E x=some o):∀q v,ws[q]?=some v->s'.cell? (Addr.add ⟨bk,l.length,none⟩ q)=some v:=λq v Z=>by
 rw[Et rfl]
 refine BQ j K O U Y ?_
 simp only[si]
 rw[no (by omega)]
 rw[show l.length+q - l.length=q by omega];exact Z
variable {xt t1 t2:TypeId}{o:Option (Int×Option Int)}
section
variable {x:Operand}{v:Value}
end
def YI{P:Program}(J:Judge P)(v:Value)(args:Av_)(s:St)(R:Value->St->Prop):Prop:=
 ∀(Q:Gs_) (c:Frame) (cs:Lf_),(∀w s',R w s'->J.ok Q (G (c.finish w) cs) s')->
  lp P (do let d ← Deferred.ofValue v args;invoke d.target d.args) s (λK s'=>match K with
   | .enter f a=>J.ok Q (G (Frame.enter P f a .normal) (c::cs)) s'
   | .round l f tm as O=>J.ok Q (G (Frame.round l f tm as O .normal) (c::cs)) s'
   | _=>False) (λ_ _=>False)
def HP{P:Program}(J:Judge P)(v:Value)(args:Lv_)(E:LH)(B:Seg)(R:Value->LH->Seg->Prop):Prop:=
 ∀H,Nd E H B->YI J v args.toArray (mk E H B) (λv s'=>∃E' B',Le E E'/\R v E' B'/\Nd E' H B'/\s'=mk E' H B')
variable{O:Value}
section
variable {b:Frame}{n i:Nat}
theorem HP.ofFn{f:FuncId}{caps vs:Lv_}{B:Seg}(hb:El P f=true)(h:AZ J f (vs++caps) E B R):HP J (.func (.func f) #[] caps.toArray) vs E B R:=λH K Q c cs O=>by
 simp only[Deferred.ofValue,bind,Sem.bind,pure,invoke]
 have e: #[]++vs.toArray++caps.toArray=(vs++caps).toArray:=by simp
 rw[e];exact Kl hb (h H K Q c cs O)
theorem bu{x:Operand}{s:St}{vs:Lv_}{R:Value->St->Prop}
  (Y:ops[i]?=some ⟨d,.call ⟨.value x,args,ats⟩,ty,p,af,g⟩) (hw:A2 L ops ⟨d,.call ⟨.value x,args,ats⟩,ty,p,af,g⟩=some true) (U:((b.kind != .early)&&Bz n d)=true)
  (Z:ev L x=some O) (ac:evs L args.toList=some vs) (ag:YI J O vs.toArray s R) (al:∀v s',R v s'->JL J Q b n (AA L d v) ds (.inRegion ops rest::k) cs s'):
  JL J Q b n L ds (.inRegion ops (i::rest)::k) cs s:=λT K=>by
 simp only[f5] at U
 have am:args.map (BK T)=vs.toArray:=by
  rw[← GF K.GJ ac];apply s5;simp
 refine Judge.oper Y (Cn K hw) (by simpa using U.1) (.inr λc ap=>by cases ap) ?_;have hd:lp P (execOp (BK T) ⟨d,.call ⟨.value x,args,ats⟩,ty,p,af,g⟩) s (upon J Q b T ds ops i rest k cs d) (M7 J Q b T ds ops i rest k cs):=by
  have aq:execOp (BK T) ⟨d,.call ⟨.value x,args,ats⟩,ty,p,af,g⟩=(do let d ← Deferred.ofValue O vs.toArray;invoke d.target d.args):=by
   simp only[execOp,resolve,am,K.GJ _ _ Z]
  rw[aq];refine Es _ (ag Q (fr b T ds (.inRegion ops (i::rest)::k)) cs λv s' av=>?_) (λaw s' h=>?_) (λ_ _ h=>h.elim);rw[Hg (o:=⟨d,.call ⟨.value x,args,ats⟩,ty,p,af,g⟩) _ _ _ _ _ Y];exact al v s' av _ (K.put U.2 v);cases aw<;>first | exact h | exact h.elim
 exact hd
theorem MP{x:Operand}{vs:Lv_}(j:Nat)
  (am:HP J O vs E seg R) (ap:ops[i]?=some ⟨d,.call ⟨.value x,args,ats⟩,ty,p,af,g⟩) (hw:A2 L ops ⟨d,.call ⟨.value x,args,ats⟩,ty,p,af,g⟩=some true) (aq:((b.kind != .early)&&Bz n d)=true)
  (K:ev L x=some O) (av:evs L args.toList=some vs) (U:Av E H S) (Y:S[j]?=some seg) (aw:∀v E' seg',Le E E'->R v E' seg'->Av E' H (S.set j seg')->JL J Q b n (AA L d v) ds (.inRegion ops rest::k) cs (Ak E' H (S.set j seg'))):
  JL J Q b n L ds (.inRegion ops (i::rest)::k) cs (Ak E H S):=by
 have Z:S.flatten.Perm (seg++(S.set j []).flatten):=(EU (seg':=seg) Y).1.trans r0;have ac:Nd E H (seg++(S.set j []).flatten):=Nd.perm U Z;have ay:Ak E H S=mk E (By (S.set j []).flatten H) seg:=by
  rw[show Ak E H S=mk E H S.flatten from rfl,FK U Z];unfold mk;rw[Gm]
 rw[ay];refine bu ap hw aq K av (am _ (Nd.front ac)) ?_;rintro v s' ⟨E',B',hle,az,a0,rfl⟩;have e2:mk E' (By (S.set j []).flatten H) B'=mk E' H (B'++(S.set j []).flatten):=by unfold mk;rw[Gm]
 have a1:Nd E H (S.set j []).flatten:=by
  have:=ac;rw[Nd.iff] at this ⊢;rw[sB,sR] at this;exact⟨this.1.2.1,λq a2=>this.2 q (sc _ a2)⟩
 refine WB V λ⟨w,a3⟩=>?_;have a4:Nd E' H (S.set j []).flatten:=a1.grow λx K=>by
  have a5:=a3.d x K;have a6:By B' (By (S.set j []).flatten H) x=none:=a5;exact(IA a6).1
 have ag:Nd E' H (B'++(S.set j []).flatten):=Nd.glue a0 a4;rw[e2];have al:(B'++(S.set j []).flatten).Perm (S.set j B').flatten:=r0.trans (EU Y).2.symm;rw[FK ag al];exact aw v E' B' hle az (Nd.perm ag al)
theorem Take.kV{m id:Nat}{listed:Array Bool}{f:FuncId}{vs:Lv_}(ap:H7 S bks)(Z:Av E H S)(aq:AZ J f vs E [] R)
  (av:ops[i]?=some ⟨d,.call ⟨.value (.func f),args,ats⟩,ty,p,af,g⟩) (hw:A2 L ops ⟨d,.call ⟨.value (.func f),args,ats⟩,ty,p,af,g⟩=some true) (aw:Bz n d=true) (hb:El P f=true) (ay:evs L args.toList=some vs)
  (az:∀v E' seg',Le E E'->R v E' seg'->Av E' H (S++ [seg'])->A3 J Q b n ds ops k cs m (AG bks) id (Bp listed i) (AA L d v) (Ak E' H (S++ [seg']))):
  Take J Q b n ds ops k cs m (AG bks) id listed L (Ak E H S) i:=by
 have a0:=Fj.Mk (aq (By S.flatten H) trivial) (by rintro v s' ⟨E',B',_,_,_,rfl⟩;rfl);refine⟨_,av,by simp[EN],aw,hw,λρ ac=>?_⟩;have a1:args.map ρ=vs.toArray:=by
  rw[← GF ac ay];apply s5;simp
 have a2:ρ (.func f)=.func (.func f) #[] #[]:=ac _ _ V;simp only[execOp,resolve,bind,Sem.bind,Deferred.ofValue,a2,pure,invoke];have e: #[]++args.map ρ++ #[]=vs.toArray:=by rw[a1];simp
 rw[e];refine Kl hb ?_;rw[MI];refine⟨_,a0,?_⟩;rintro v bb ⟨⟨E',B',hle,a3,a4,rfl⟩,w,a5⟩;have e2:mk E' (By S.flatten H) B'=mk E' H (B'++S.flatten):=by unfold mk;rw[Gm]
 have a6:Nd E' H S.flatten:=Nd.grow Z λx O=>by
  have a7:=a5.d x O;have U:By B' (By S.flatten H) x=none:=a7;exact(IA U).1
 have ag:Nd E' H (B'++S.flatten):=Nd.glue a4 a6;have al:(B'++S.flatten).Perm (S++ [B']).flatten:=by rw[Hz];exact r0
 have am:Av E' H (S++ [B']):=Nd.perm ag al;rw[e2,FK ag al];refine⟨V,λx o O=>?_,az v E' B' hle a3 am⟩;by_cases hd:AG bks x=true
 .obtain⟨j,o',Y⟩:=ap.mem x (by simpa [AG] using hd);have U:(Ak E H S).get x=some o':=Ed (i:=0) Z Y V;have a8:j<S.length:=(d7.1 Y).1;have a9:(Ak E' H (S++ [B'])).get x=some o':=Ed (i:=0) am (by rw[rQ a8];exact Y) rfl;have K:(if AG bks x then(Ak E H S).get x else E x)=some o:=O
  show(if AG bks x then(Ak E' H (S++ [B'])).get x else E' x)=some o
  rw[d6 hd] at K ⊢;rw[a9,← U];exact K
 .have K:(if AG bks x then(Ak E H S).get x else E x)=some o:=O
  show(if AG bks x then(Ak E' H (S++ [B'])).get x else E' x)=some o
  rw[d0 hd] at K ⊢;exact hle _ _ K
theorem Take.FE{m id:Nat}{listed:Array Bool}{f:FuncId}{vs:Lv_}(O:Av E H S)(U:AZ J f vs E [] R)
  (Y:ops[i]?=some ⟨d,.call ⟨.value (.func f),args,ats⟩,ty,p,af,g⟩) (hw:A2 L ops ⟨d,.call ⟨.value (.func f),args,ats⟩,ty,p,af,g⟩=some true) (Z:Bz n d=true) (hb:El P f=true) (ac:evs L args.toList=some vs)
  (K:∀v E' seg',Le E E'->R v E' seg'->Av E' H (S++ [seg'])->A3 J Q b n ds ops k cs m Ec id (Bp listed i) (AA L d v) (Ak E' H (S++ [seg']))):
  Take J Q b n ds ops k cs m Ec id listed L (Ak E H S) i:=by
 have e:AG []=Ec:=by funext x;rfl
 rw[← e] at K ⊢;exact Take.kV (bks:=[]) trivial O U Y hw Z hb ac K
end
open Go.ConcN (upd upd_ne upd_same)
def Df:Loc->Option Nat | .cell a=>some a.block | .obj r=>some r | _=>none
structure Cd (t:Trace) (w:World) (N:Nat) (S:Nat->St) (Sh:Nat->Prop):Prop where
 fits:∀i,i<N->Fits (S i) w
 hh:∀i j,i<N->j<N->i≠j->∀b,(S i).H b≠none->(S j).H b=none/\(S j).E b=none
 sh:∀i,i<N->∀b,Sh b->(S i).H b=none/\(S i).E b=none
 G4:∀b,Sh b->b<w.heap.size
 clean:∀said,¬Race said t
 low:∀op∈t,op.act.low w.heap.size
 kH:∀i,i<N->∀b,(S i).H b≠none->∀x a,touchAt t x=some a->Df a.loc=some b->Knows t i x
 kE:∀i,i<N->∀b,(S i).E b≠none->∀x a,touchAt t x=some a->Df a.loc=some b->a.write=true->Knows t i x
theorem Sj{t:Trace}{x:Nat}{a:Touch}{b n:Nat}(Z:∀op∈t,op.act.low n)(h:touchAt t x=some a)(hb:Df a.loc=some b):b<n:=by
 let⟨op,ac,K⟩:=touch_of h;have O:=Z op (mem_of_getElem? ac);cases U:op.act with
 | access e=>
  rw[U] at K O;simp only[MemAct.touch?,sQ] at K;subst K;simp only[MemAct.low] at O;cases Y:e.loc with
  | cell ad=>rw[Y] at O hb;simp only[Df,sQ] at hb;subst hb;exact O
  | obj r=>rw[Y] at O hb;simp only[Df,sQ] at hb;subst hb;exact O
  | _=>rw[Y] at hb;simp[Df] at hb
 | mark m=>
  rw[U] at K O;cases m<;>simp only[MemAct.touch?] at K<;>first
   | (simp at K;done)
   | (simp only[sQ] at K;subst K;simp only[Df,sQ] at hb;subst hb;exact O)
 | _=>rw[U] at K;simp[MemAct.touch?] at K
variable{w':World}
theorem MR{s:St}{w:World}{e:Event}{a:Touch}{b:Nat}(h:Ev s w w' e)(K:(MemAct.ofEvent e).touch?=some a)(hb:Df a.loc=some b):
  HA s w w' b a.write:=by
 obtain⟨loc,wr,Y⟩:=e;cases loc with
 | cell ad=>
  obtain⟨O,U⟩:=h;simp only at O;subst O;simp only[MemAct.ofEvent,MemAct.touch?,sQ] at K;subst K;simp only[Df,sQ] at hb;subst hb;exact U
 | obj r=>
  obtain⟨O,U⟩:=h;simp only at O;subst O;simp only[MemAct.ofEvent,MemAct.touch?,sQ] at K;subst K;simp only[Df,sQ] at hb;subst hb;exact U
 | mark m=>
  cases m<;>simp only[Ev] at h<;>first | exact h.elim | simp[MemAct.ofEvent,MemAct.touch?] at K
 | _=>exact h.elim
theorem gS{s:St}{w:World}{e:Event}(h:Ev s w w' e):(MemAct.ofEvent e).low w'.heap.size:=by
 obtain⟨loc,wr,U⟩:=e;cases loc with
 | cell ad=>obtain⟨K,O⟩:=h;simp only at K;subst K;exact O.1
 | obj r=>obtain⟨K,O⟩:=h;simp only at K;subst K;cases wr<;>exact O.1
 | mark m=>cases m<;>simp only[Ev] at h<;>first | exact h.elim | exact trivial
 | _=>exact h.elim
theorem Zq{l:Loc}(h:l.isMemory=true):∃b,Df l=some b:=by
 cases l<;>simp[Loc.isMemory] at h<;>exact⟨_,rfl⟩
variable{N:Nat}{Sh:Nat->Prop}
theorem Cd.own{t:Trace}{w:World}{S:Nat->St}(h:Cd t w N S Sh){i:Nat}(hi:i<N){fn:FuncId}{pos:String}{es:Array Event}
  (bb:Fits s' w') (Y:Fr (S i) w s' w') (ay:∀e∈es,Ev (S i) w w' e):Cd (t++MemOp.ofEvents i fn pos es) w' N (upd S i s') Sh:=by
 have a5:∀j,j<N->j≠i->∀b o,((S j).H b=some o∨(S j).E b=some o)->w'.heap[b]?=some o/\(S i).H b=none:=by
  intro j U Z b o K;have hw:w.heap[b]?=some o:=K.elim ((h.fits j U).h b o) ((h.fits j U).e b o);have al:b<w.heap.size:=by
   rcases jH b w.heap.size with a1 | a1;exact a1;simp[rZ a1] at hw
  have a6:(S i).H b=none:=by
   cases be:(S i).H b with
   | none=>rfl
   | some u=>
    have:=h.hh i j hi U (sy Z) b (by rw[be];simp);rcases K with K | K;rw[this.1] at K;cases K;rw[this.2] at K;cases K
  exact⟨by rw[Y.keep b al a6,hw],a6⟩
 have az:∀j,j<N->∀b,w.heap.size<=b->(S j).H b=none/\(S j).E b=none:=by
  intro j U b hb;constructor
  .cases O:(S j).H b with
   | none=>rfl
   | some o=>have:=(h.fits j U).h b o O;simp[rZ hb] at this
  .cases O:(S j).E b with
   | none=>rfl
   | some o=>have:=(h.fits j U).e b o O;simp[rZ hb] at this
 have am:∀op∈MemOp.ofEvents i fn pos es,op.g=i/\∃e∈es,op.act=MemAct.ofEvent e:=by
  intro op am;obtain⟨e,he,rfl⟩:=mem_ofEvents am;exact⟨V,e,he,V⟩
 have hold:∀x a,touchAt t x=some a->touchAt (t++MemOp.ofEvents i fn pos es) x=some a:=by
  intro x a O;let⟨op,K,_⟩:=touch_of O;rw[touchAt_old (lt_size_of_getElem? K)];exact O
 have a0:∀x a,touchAt (t++MemOp.ofEvents i fn pos es) x=some a->touchAt t x=some a∨(Knows (t++MemOp.ofEvents i fn pos es) i x/\∃e∈es,(MemAct.ofEvent e).touch?=some a):=by
  intro x a O;let⟨op,K,a7⟩:=touch_of O;rcases getElem?_append_cases K with⟨al,bi⟩ | ⟨_,bn⟩;left;rw[touchAt_of bi];exact a7;right;let⟨bo,e,he,aq⟩:=am op bn;exact⟨by have:=knows_own K;rwa[bo] at this,e,he,by rw[← aq];exact a7⟩
 have bv:∀j,j<N->j≠i->∀b,s'.H b≠none->(S j).H b=none/\(S j).E b=none:=by
  intro j U Z b hb;rcases Y.own b hb with O | O;exact h.hh i j hi U (sy Z) b O;exact az j U b O
 have bw:∀j,j<N->j≠i->∀b,(S j).H b≠none->s'.H b=none/\s'.E b=none:=by
  intro j U Z b hb;have ac:=h.hh j i U hi Z b hb;have al:¬w.heap.size<=b:=λO=>hb (az j U b O).1;constructor
  .cases O:s'.H b with
   | none=>rfl
   | some o=>
    rcases Y.own b (by rw[O];simp) with y | y;exact absurd ac.1 y;exact absurd y al
  .cases O:s'.E b with
   | none=>rfl
   | some o=>
    rcases Y.Fy b (by rw[O];simp) with y | y | y;exact absurd ac.2 y;exact absurd ac.1 y;exact absurd y al
 constructor;intro j U;by_cases e:j=i;subst e;rw[upd_same];exact bb;rw[upd_ne _ _ e];exact⟨λb o K=>(a5 j U e b o (.inr K)).1,λb o K=>(a5 j U e b o (.inl K)).1,(h.fits j U).d⟩;intro a c a8 av Z b hb;by_cases e:a=i;subst e;rw[upd_same] at hb;rw[upd_ne _ _ (sy Z)];exact bv c av (sy Z) b hb;rw[upd_ne _ _ e] at hb;by_cases a9:c=i;subst a9;rw[upd_same];exact bw a a8 Z b hb;rw[upd_ne _ _ a9];exact h.hh a c a8 av Z b hb
 .intro j U b hb;by_cases e:j=i
  .subst e;rw[upd_same];have ac:=h.sh j U b hb;have al:=h.G4 b hb;constructor
   .cases O:s'.H b with
    | none=>rfl
    | some o=>
     rcases Y.own b (by rw[O];simp) with y | y;exact absurd ac.1 y;omega
   .cases O:s'.E b with
    | none=>rfl
    | some o=>
     rcases Y.Fy b (by rw[O];simp) with y | y | y;exact absurd ac.2 y;exact absurd ac.1 y;omega
  .rw [upd_ne _ _ e];exact h.sh j U b hb
 .exact λb hb=>sS (h.G4 b hb) Y.size
 .intro said;refine noRace_append (g:=i) (h.clean said) (λop K=>(am op K).1) λx a O op K c av bx=>?_;let⟨_,e,he,aq⟩:=am op K;rw[aq] at av;obtain⟨bz,hm,ap,_⟩:=bx;let⟨b,hb⟩:=Zq hm;have b0:Df c.loc=some b:=by rw[← bz];exact hb
  have aw:=MR (ay e he) av b0;rcases aw.2 with y | y | ⟨y,a2⟩;exact h.kH i hi b y x a O hb;have:=Sj h.low O hb;omega;rcases ap with z | z;exact h.kE i hi b y x a O hb z;rw[a2] at z;cases z
 intro op K;rcases tv.1 K with K | K;exact MemAct.low_mono Y.size (h.low op K);let⟨_,e,he,aq⟩:=am op K;rw[aq];exact gS (ay e he);intro j U b hb x a O ag;by_cases e:j=i;subst e;rw[upd_same] at hb;rcases a0 x a O with K | ⟨a3,_⟩;rcases Y.own b hb with y | y;exact(h.kH j U b y x a K ag).app _;have:=Sj h.low K ag;omega;exact a3;rw[upd_ne _ _ e] at hb;rcases a0 x a O with K | ⟨_,ev,he,a4⟩;exact(h.kH j U b hb x a K ag).app _;have aw:=MR (ay ev he) a4 ag;have ac:=h.hh j i U hi e b hb;rcases aw.2 with y | y | ⟨y,_⟩;exact absurd ac.1 y;exact absurd (az j U b y).1 hb;exact absurd ac.2 y;intro j U b hb x a O ag ap;by_cases e:j=i;subst e;rw[upd_same] at hb;rcases a0 x a O with K | ⟨a3,_⟩;rcases Y.Fy b hb with y | y | y;exact(h.kE j U b y x a K ag ap).app _;exact(h.kH j U b y x a K ag).app _;have:=Sj h.low K ag;omega;exact a3;rw[upd_ne _ _ e] at hb;rcases a0 x a O with K | ⟨_,ev,he,a4⟩;exact(h.kE j U b hb x a K ag ap).app _;have aw:=MR (ay ev he) a4 ag;rcases aw.2 with y | y | ⟨_,a2⟩;exact absurd ((h.hh i j hi U (sy e) b y).2) hb;exact absurd (az j U b y).2 hb;rw[a2] at ap;cases ap
theorem Cd.mute{t u:Trace}{w:World}{S:Nat->St}(h:Cd t w N S Sh){g:Nat}(hu:∀op∈u,op.g=g)(Z:∀op∈u,op.act.touch?=none)(al:∀op∈u,op.act.low w'.heap.size)(hw:w'.heap=w.heap):Cd (t++u) w' N S Sh:=by
 have ac:∀x a,touchAt (t++u) x=some a->touchAt t x=some a:=by
  intro x a O;let⟨op,K,U⟩:=touch_of O;rcases getElem?_append_cases K with⟨av,am⟩ | ⟨_,ap⟩;rw[touchAt_of am];exact U;rw[Z op ap] at U;cases U
 exact⟨λi hi=>⟨λb o K=>by rw[hw];exact(h.fits i hi).e b o K,λb o K=>by rw[hw];exact(h.fits i hi).h b o K,(h.fits i hi).d⟩,h.hh,h.sh,λb hb=>by rw[hw];exact h.G4 b hb,
  λsaid=>noRace_append (g:=g) (h.clean said) hu (λx a _ op K c ag _=>by rw[Z op K] at ag;cases ag),
  λop K=>(tv.1 K).elim (λK=>by rw[hw];exact h.low op K) (al op),
  λi hi b hb x a O Y=>(h.kH i hi b hb x a (ac x a O) Y).app _,λi hi b hb x a O Y aq=>(h.kE i hi b hb x a (ac x a O) Y aq).app _⟩
theorem Cd.ghost{t:Trace}{w:World}{S:Nat->St}(h:Cd t w N S Sh){i:Nat}(hi:i<N){s₀:St}(al:Cx (S i) s₀):Cd t w N (upd S i s₀) Sh:=by
 have Z:∀b,s₀.H b≠none->(S i).H b≠none:=λb hb=>by let⟨o,am⟩:=I7 hb;rw[al.own b o am];simp
 have ap:∀b,s₀.E b≠none->(S i).E b≠none∨(S i).H b≠none:=λb hb=>by
  let⟨o,am⟩:=I7 hb;rcases al.Fy b o am with x | x;exact .inl (by rw[x];simp);exact .inr (by rw[x.1];simp)
 have ac:∀{x:Option Obj},¬x≠none->x=none:=λh=>vB.1 h;constructor;intro j K;by_cases e:j=i;subst e;rw[upd_same];exact al.fits (h.fits j K);rw[upd_ne _ _ e];exact h.fits j K;intro a c aq av ag b hb;by_cases e:a=i;subst e;rw[upd_same] at hb;rw[upd_ne _ _ (sy ag)];exact h.hh a c aq av ag b (Z b hb);rw[upd_ne _ _ e] at hb;by_cases aw:c=i;subst aw;rw[upd_same];have O:=h.hh a c aq av ag b hb;exact⟨ac λx=>Z b x O.1,ac λx=>(ap b x).elim (λy=>y O.2) λy=>y O.1⟩;rw[upd_ne _ _ aw];exact h.hh a c aq av ag b hb;intro j K b hb;by_cases e:j=i;subst e;rw[upd_same];have O:=h.sh j K b hb;exact⟨ac λx=>Z b x O.1,ac λx=>(ap b x).elim (λy=>y O.2) λy=>y O.1⟩;rw[upd_ne _ _ e];exact h.sh j K b hb;exact h.G4;exact h.clean;exact h.low;intro j K b hb x a U Y;by_cases e:j=i;subst e;rw[upd_same] at hb;exact h.kH j K b (Z b hb) x a U Y;rw[upd_ne _ _ e] at hb;exact h.kH j K b hb x a U Y;intro j K b hb x a U Y ay;by_cases e:j=i;subst e;rw[upd_same] at hb;rcases ap b hb with y | y;exact h.kE j K b y x a U Y ay;exact h.kH j K b y x a U Y;rw[upd_ne _ _ e] at hb;exact h.kE j K b hb x a U Y ay
open Go.ConcN (sumTo sumTo_upd)
abbrev St.none:St:=St.quiet
def G6(o o':Os):Prop:=∃d:Nat,o'={o with wall:=o.wall+d,mono:=o.mono+d}
theorem G6.refl(o:Os):G6 o o:=⟨0,V⟩
theorem G6.of{o o':Os}(h:o'=o):G6 o o':=h▸ .refl o
theorem G6.trans{a b c:Os}(h:G6 a b)(k:G6 b c):G6 a c:=by
 obtain⟨d,rfl⟩:=h;obtain⟨e,rfl⟩:=k;exact⟨d+e,by simp[t9]⟩
def lone(s:St):Nat->St:=λi=>if i=0 then s else St.none
structure It (P:Program) (gs:Array Goroutine) (w:World) (t:Trace) (q:Nat->Nat) (Sh:Nat->Prop) (g:Goroutine) (s:St):Prop where
 main:gs[0]?=some g
 lv:Leavers P t gs q
 Ct:Cd t w gs.size (lone s) Sh
 over:t.HandedOver
 hears:Deaf t 0=0
def Reaches(P:Program)(gs:Array Goroutine)(w:World)(sl:Option (Nat×Nat))(t:Trace)(s:St)(K:Gs_):Prop:=
 ∃(n:Nat) (gs':Array Goroutine) (w':World) (U:Option (Nat×Nat)) (O:Trace) (q':Nat->Nat) (Y:Nat->Prop) (g':Goroutine) (s':St),
  runNT P n (crowd gs w sl) t=(.next (crowd gs' w' U),O)/\It P gs' w' O q' Y g' s'/\K g' s'/\Le' s s'/\w'.tape=w.tape/\G6 w.os w'.os/\w'.output=w.output
 where
  Le' (s s' : St) : Prop :=∀ b o, s.E b = some o -> s'.E b = some o
theorem VH{s:St}:upd (lone s) 0 s'=lone s':=by
 funext i;unfold upd lone;split<;>rfl
theorem O3{P:Program}{m m':Machine}{t ops:Trace}{k:Nat}{r:Stepped×Trace}(h:stepT P m=(.next m',ops))(K:runNT P k m' (t++ops)=r):runNT P (k+1) m t=r:=by
 simp only[runNT,h];exact K
theorem It.at_{P:Program}{gs:Array Goroutine}{w:World}{t:Trace}{q:Nat->Nat}{g:Goroutine}{s:St}(h:It P gs w t q Sh g s)(d:Nat):It P gs (w.at d) t q Sh g s:=
 ⟨h.main,h.lv,by
  have:=h.Ct.mute (u:=#[]) (w':=w.at d) (g:=0) (by simp) (by simp) (by simp) rfl
  simpa using this,h.over,h.hears⟩
theorem aj{P:Program}{g:Goroutine}{s:St}{K:Gs_}(a8:Xf P true g s K):
  ∀(M:Nat) (gs:Array Goroutine) (w:World) (sl:Option (Nat×Nat)) (t:Trace) (q:Nat->Nat) (Sh:Nat->Prop),sumTo gs.size q<=M->It P gs w t q Sh g s->Reaches P gs w sl t s K:=by
 intro M
 induction M with
 | zero=>?_
 | succ M bn=>?_
 all_goals
  intro gs w sl t q Sh ce hC;have aw:=a8.1;have bo:∀x∈gs,awake x:=by
   intro x al;obtain⟨i,hi,rfl⟩:=u3.1 al;rcases sF i with rfl | ay
   .have:gs[0]=g:=by simpa [sf hi] using hC.main
    rw[this];exact awake_of (.inl aw)
   .exact awake_of ((hC.lv.old i _ ay (sf hi)).status.elim .inl λx=>.inr (.inr x))
  let⟨i,x,d,am,hi,al,a9⟩:=crowd_pick (P:=P) (w:=w) (sl:=sl) bo ⟨0,g,hC.main,aw⟩;have az:=hC.at_ d;have a0:0<gs.size:=(f8.1 hC.main).1;rcases sF i with rfl | ay
  .obtain rfl:x=g:=by rw[hC.main] at hi;exact(f6 hi).symm
   have bv:Fits s (w.at d):=az.Ct.fits 0 a0;let⟨g',s',w',es,a1,a2,a3,Z,ap⟩:=a8.2.1 (w.at d) bv;have a4:=runT_crowd_go (P:=P) (sl:=am) (i:=0) hi (show stepG P (0==0) x (w.at d)=_ from a1);have aq:((gs.map (woken P x g' w')).setIfInBounds 0 g').size=gs.size:=by simp
   have Y:∀op∈MemOp.ofEvents 0 x.frame.fn x.frame.place es,op.g=0:=λop O=>by obtain⟨e,_,rfl⟩:=mem_ofEvents O;rfl
   have bw:deafBehind (Deaf t 0) es=Deaf t 0:=deafBehind_still (λe he=>by
    have:=ap e he
    unfold Ev at this
    constructor<;>intro bx<;>rw[bx] at this<;>exact this) _
   refine⟨1,_,w',am,t++MemOp.ofEvents 0 x.frame.fn x.frame.place es,q,Sh,g',s',O3 (a9.trans a4) V,⟨by simp[a0],⟨λj y U ac=>?_,λj U=>?_⟩,?_,?_,?_⟩,a2,Z.ext,Z.tape,.of Z.os,Z.output⟩
   .have a5:0≠j:=by omega
    rw[mt a5,tH] at ac;obtain⟨z,a6,rfl⟩:=sr.1 ac;have ag:=hC.lv.old j z U a6;rw[woken_quitsD ag,Deaf_other t (by omega) _ Y];exact ag
   rw[Deaf_other t (g':=0) (by simp at U;omega) _ Y];exact hC.lv.above j (by simpa using U);rw[aq,← VH (s:=s)];exact az.Ct.own a0 a3 (by simpa [lone] using Z) (by simpa [lone] using ap);exact handedOver_app hC.over λop O=>.inl (Y op O);rw[Deaf_own,bw];exact hC.hears
  ·
   have ag:=hC.lv.old i x ay hi;have bz:(i==0)=false:=by simp;omega
   have bb:i<gs.size:=(f8.1 hi).1;cases a7:q i with
   | zero=>rw[a7] at ag;rw[ag.1] at al;cases al
   | succ k=>
    rw[a7] at ag;rcases ag with⟨b0,_⟩ | ⟨_,x',es,hm,b1,b2⟩;rw[b0] at al;cases al
    have ci:sumTo gs.size (upd q i k)+(k+1)=sumTo gs.size q+k:=by
     have:=sumTo_upd q k id bb;simpa [a7] using this
    first
     | (exfalso;omega)
     | (
      have a4:=runT_crowd_go (P:=P) (sl:=am) (i:=i) hi (by rw[bz];exact b1 (w.at d))
      have aq:((gs.map (woken P x x' (w.at d))).setIfInBounds i x').size=gs.size:=by simp
      have Y:∀op∈MemOp.ofEvents i x.frame.fn x.frame.place es,op.g=i:=λop O=>by obtain⟨e,_,rfl⟩:=mem_ofEvents O;rfl
      have be:∀op∈MemOp.ofEvents i x.frame.fn x.frame.place es,op.act.touch?=none:=λop O=>by obtain⟨e,he,rfl⟩:=mem_ofEvents O;exact touch_mute (hm e he)
      have b3:It P ((gs.map (woken P x x' (w.at d))).setIfInBounds i x') (w.at d) (t++MemOp.ofEvents i x.frame.fn x.frame.place es) (upd q i k) Sh g s:=by
       refine⟨?_,⟨λj y U ac=>?_,λj U=>?_⟩,?_,?_,?_⟩
       .have a5:i≠0:=by omega
        rw[mt a5,tH,hC.main]
        simp[woken_run aw]
       .by_cases av:i=j
        .subst av
         rw[rR (by simpa using bb)] at ac
         obtain rfl:=f6 ac
         rw[upd_same,Deaf_own]
         exact b2
        .rw [mt av,tH] at ac
         obtain⟨z,a6,rfl⟩:=sr.1 ac
         have bi:=hC.lv.old j z U a6
         rw[woken_quitsD bi,upd_ne q k (sy av),Deaf_other t av _ Y]
         exact bi
       .rw [Deaf_other t (g':=i) (by simp at U;omega) _ Y]
        exact hC.lv.above j (by simpa using U)
       .rw [aq]
        exact az.Ct.mute Y be (λop O=>by obtain⟨e,he,rfl⟩:=mem_ofEvents O;exact low_mute (hm e he) _) V
       exact handedOver_app hC.over λop O=>.inr (be op O);rw[Deaf_other t (by omega) _ Y];exact hC.hears
      obtain⟨n,gs',w',b4,b5,q',b6,g',s',a1,a2,a3,Z,ap,ca,cc⟩:=bn _ (w.at d) am _ _ Sh (by rw[aq];omega) b3
      exact⟨n+1,gs',w',b4,b5,q',b6,g',s',O3 (a9.trans a4) a1,a2,a3,Z,ap,ca,cc⟩)
def Hi(P:Program):Judge P where
 main:=true
 ok Q g s:=∀gs w sl t q Sh,It P gs w t q Sh g s->Reaches P gs w sl t s Q
 stop {Q g s} h:=λgs w sl t q Sh hC=>⟨0,gs,w,sl,t,q,Sh,g,s,rfl,hC,h,λ_ _ h=>h,rfl,.refl _,rfl⟩
 step {Q g s} h:=λgs w sl t q Sh hC=>by
  let⟨n,gs',w',K,O,q',U,g',s',Y,Z,ac,ag,al,am,ap⟩:=aj h _ gs w sl t q Sh (rJ _) hC
  let⟨aq,av,aw,ay,az,a0,a1,a2,a3,k1,a4,a5,a6,a7,a8,a9⟩:=ac gs' w' K O q' U Z
  refine⟨n+aq,av,aw,ay,az,a0,a1,a2,a3,?_,a4,a5,λb o h=>a6 b o (ag b o h),a7.trans al,am.trans a8,a9.trans ap⟩
  rw[runNT_add,Y];exact k1
 trans {Q R g s} h k:=λgs w sl t q Sh hC=>by
  let⟨n,gs',w',K,O,q',U,g',s',Y,Z,ac,ag,al,am,ap⟩:=h gs w sl t q Sh hC
  let⟨aq,av,aw,ay,az,a0,a1,a2,a3,k1,a4,a5,a6,a7,a8,a9⟩:=k g' s' ac gs' w' K O q' U Z
  refine⟨n+aq,av,aw,ay,az,a0,a1,a2,a3,?_,a4,a5,λb o h=>a6 b o (ag b o h),a7.trans al,am.trans a8,a9.trans ap⟩
  rw[runNT_add,Y];exact k1
 ghost {Q g s s₀} bb h:=λgs w sl t q Sh hC=>by
  have be:0<gs.size:=(f8.1 hC.main).1
  have bi:It P gs w t q Sh g s₀:=⟨hC.main,hC.lv,by
   rw[← VH (s:=s)];exact hC.Ct.ghost be (by simpa [lone] using bb),hC.over,hC.hears⟩
  let⟨n,gs',w',K,O,q',U,g',s',Y,Z,ac,ag,al,am,ap⟩:=h gs w sl t q Sh bi
  exact⟨n,gs',w',K,O,q',U,g',s',Y,Z,ac,λb o h=>ag b o (bb.ext b o h),al,am,ap⟩
end Pal
namespace Pal
open Go Go.Conc
open Go.ConcN (upd upd_same upd_ne)
variable{i:Nat}
section
variable {t u:Trace}{w w':World}{N:Nat}{S:Nat->St}{Sh:Nat->Prop}
theorem Cd.ext(h:Cd t w N S Sh)(ag:∀said,¬Race said (t++u))(hu:∀op∈u,∀a,op.act.touch?=some a->∀b,Df a.loc=some b->Sh b)
  (al:∀op∈u,op.act.low w.heap.size) (Z:w'.heap.size=w.heap.size) (hw:∀b,¬Sh b->w'.heap[b]?=w.heap[b]?):Cd (t++u) w' N S Sh:=by
 have hold:∀x a b,touchAt (t++u) x=some a->Df a.loc=some b->¬Sh b->touchAt t x=some a:=by
  intro x a b U hb O;let⟨op,K,ac⟩:=touch_of U;rcases getElem?_append_cases K with⟨aw,am⟩ | ⟨_,ap⟩;rw[touchAt_of am];exact ac;exact absurd (hu op ap a ac b hb) O
 have O:∀i,i<N->∀b,((S i).H b≠none∨(S i).E b≠none)->¬Sh b:=by
  intro i hi b hb aq;have:=h.sh i hi b aq;exact hb.elim (λx=>x this.1) (λx=>x this.2)
 refine⟨λi hi=>⟨λb o K=>?_,λb o K=>?_,(h.fits i hi).d⟩,h.hh,h.sh,λb hb=>by rw[Z];exact h.G4 b hb,ag,λop K=>?_,λi hi b hb x a U Y=>?_,λi hi b hb x a U Y av=>?_⟩;rw[hw b (O i hi b (.inr (by rw[K];simp)))];exact(h.fits i hi).e b o K;rw[hw b (O i hi b (.inl (by rw[K];simp)))];exact(h.fits i hi).h b o K;rcases tv.1 K with K | K;rw[Z];exact h.low op K;rw[Z];exact al op K;exact(h.kH i hi b hb x a (hold x a b U Y (O i hi b (.inl hb))) Y).app _;exact(h.kE i hi b hb x a (hold x a b U Y (O i hi b (.inr hb))) Y av).app _
theorem Cd.congr{S':Nat->St}(h:Cd t w N S Sh)(K:∀i,i<N->(S' i).E=(S i).E/\(S' i).H=(S i).H):Cd t w N S' Sh:=by
 refine⟨λi hi=>⟨by rw[(K i hi).1];exact(h.fits i hi).e,by rw[(K i hi).2];exact(h.fits i hi).h,by rw[(K i hi).1,(K i hi).2];exact(h.fits i hi).d⟩,λi j hi O U b=>?_,λi hi b=>?_,h.G4,h.clean,h.low,λi hi b=>?_,λi hi b=>?_⟩;rw[(K i hi).2,(K j O).1,(K j O).2];exact h.hh i j hi O U b;rw[(K i hi).1,(K i hi).2];exact h.sh i hi b;rw[(K i hi).2];exact h.kH i hi b;rw[(K i hi).1];exact h.kE i hi b
theorem Cd.less(h:Cd t w N S Sh){s':St}(al:∀b o,s'.E b=some o->(S i).E b=some o)(am:∀b o,s'.H b=some o->(S i).H b=some o):Cd t w N (upd S i s') Sh:=by
 have Y:∀j b o,(upd S i s' j).E b=some o->(S j).E b=some o:=by
  intro j b o K;by_cases e:j=i;subst e;rw[upd_same] at K;exact al b o K;rwa[upd_ne _ _ e] at K
 have e2:∀j b o,(upd S i s' j).H b=some o->(S j).H b=some o:=by
  intro j b o K;by_cases e:j=i;subst e;rw[upd_same] at K;exact am b o K;rwa[upd_ne _ _ e] at K
 have n1:∀j b,(S j).E b=none->(upd S i s' j).E b=none:=by
  intro j b hb;cases U:(upd S i s' j).E b with
  | none=>rfl
  | some o=>rw[Y j b o U] at hb;cases hb
 have n2:∀j b,(S j).H b=none->(upd S i s' j).H b=none:=by
  intro j b hb;cases U:(upd S i s' j).H b with
  | none=>rfl
  | some o=>rw[e2 j b o U] at hb;cases hb
 have p1:∀j b,(upd S i s' j).E b≠none->(S j).E b≠none:=λj b hb x=>hb (n1 j b x);have p2:∀j b,(upd S i s' j).H b≠none->(S j).H b≠none:=λj b hb x=>hb (n2 j b x);exact⟨λj O=>⟨λb o K=>(h.fits j O).e b o (Y j b o K),λb o K=>(h.fits j O).h b o (e2 j b o K),λb hb=>n2 j b ((h.fits j O).d b (p1 j b hb))⟩,
  λa c Z ac ag b hb=>⟨n2 c b (h.hh a c Z ac ag b (p2 a b hb)).1,n1 c b (h.hh a c Z ac ag b (p2 a b hb)).2⟩,
  λj O b hb=>⟨n2 j b (h.sh j O b hb).1,n1 j b (h.sh j O b hb).2⟩,h.G4,h.clean,h.low,
  λj O b hb=>h.kH j O b (p2 j b hb),λj O b hb=>h.kE j O b (p1 j b hb)⟩
theorem Cd.push(h:Cd t w N S Sh)(hi:i<N){E:LH}(ac:∀b o,E b=some o->(S i).E b=some o)
  (am:∀b,E b≠none->∀x a,touchAt t x=some a->Df a.loc=some b->a.write=true->Knows t N x):Cd t w (N+1) (upd S N ⟨E,λ_=>none,false⟩) Sh:=by
 have O:∀j,j<N->upd S N ⟨E,λ_=>none,false⟩ j=S j:=λj K=>upd_ne _ _ (by omega);have aq:∀b,E b≠none->(S i).E b≠none:=λb hb=>by let⟨o,Y⟩:=I7 hb;rw[ac b o Y];simp
 have al:∀b,(S i).E b=none->E b=none:=λb hb=>by
  cases ag:E b with
  | none=>rfl
  | some o=>rw[ac b o ag] at hb;cases hb
 have cs:∀j,j<N+1->j<N∨j=N:=λj K=>by omega
 constructor;intro j K;rcases cs j K with K | rfl;rw[O j K];exact h.fits j K;rw[upd_same];exact⟨λb o Y=>(h.fits i hi).e b o (ac b o Y),λb o Y=>(by cases Y),λb _=>V⟩
 .intro a c U Z ap b hb;rcases cs a U with U | rfl
  .rw [O a U] at hb;rcases cs c Z with Z | rfl;rw[O c Z];exact h.hh a c U Z ap b hb
   .rw [upd_same];refine⟨V,al b ?_⟩;by_cases e:a=i
    .subst e;cases ag:(S a).E b with
     | none=>rfl
     | some o=>exact absurd ((h.fits a U).d b (by rw[ag];simp)) hb
    .exact(h.hh a i U hi e b hb).2
  .rw [upd_same] at hb;exact absurd V hb
 intro j K b hb;rcases cs j K with K | rfl;rw[O j K];exact h.sh j K b hb;rw[upd_same];exact⟨V,al b (h.sh i hi b hb).2⟩;exact h.G4;exact h.clean;exact h.low;intro j K b hb;rcases cs j K with K | rfl;rw[O j K] at hb;exact h.kH j K b hb;rw[upd_same] at hb;exact absurd V hb;intro j K b hb;rcases cs j K with K | rfl;rw[O j K] at hb;exact h.kE j K b hb;rw[upd_same] at hb;exact am b hb
theorem Cd.share(h:Cd t w N S Sh)(hi:i<N){b₀:Nat}{o₀:Obj}(U:(S i).H b₀=some o₀):
  Cd t w N (upd S i {S i with H:=λb=>if b=b₀ then none else(S i).H b}) (λb=>Sh b∨b=b₀):=by
 have K:Cd t w N (upd S i {S i with H:=λb=>if b=b₀ then none else(S i).H b}) Sh:=
  h.less (λb o O=>O) (λb o O=>by simp only at O;split at O<;>first | (cases O;done) | exact O)
 have ac:b₀<w.heap.size:=by
  have:=(h.fits i hi).h b₀ o₀ U;rcases jH b₀ w.heap.size with Y | Y;exact Y;simp[rZ Y] at this
 refine⟨K.fits,K.hh,λj Z b hb=>?_,λb hb=>hb.elim (K.G4 b) (λe=>e▸ac),K.clean,K.low,K.kH,K.kE⟩;rcases hb with hb | rfl;exact K.sh j Z b hb
 .by_cases e:j=i
  .subst e;rw[upd_same];refine⟨by simp,?_⟩;cases ag:(S j).E b with
   | none=>rfl
   | some o=>have:=(h.fits j Z).d b (by rw[ag];simp);rw[U] at this;cases this
  .rw [upd_ne _ _ e];exact h.hh i j hi Z (sy e) b (by rw[U];simp)
end
end Pal
