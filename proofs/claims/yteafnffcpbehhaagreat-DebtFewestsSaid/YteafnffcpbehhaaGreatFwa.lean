/- DebtFewests is true for every input: the first settlement with the fewest payments: a part (1 of 10) of the proof of its row. -/
import Derived.Conc.Own5
import Derived.Conc.Listed
import Derived.Conc.DeferLaws
import Derived.Orders
import Derived.Conc.Beside
set_option linter.all false
set_option maxRecDepth 100000
namespace Pal
open Go Go.Conc
theorem V{α:Sort _}{a:α}:a=a:=rfl
theorem Ad{p:Prop}(h:p:=by repeat' (first | exact trivial | exact rfl | apply And.intro)):p:=h
theorem Ac{p:Prop}(h:p:=by first | rfl | simp):p:=h
theorem Ab{p:Prop}(h:p:=by first | rfl | simp | (simp[Value.cells])):p:=h
theorem AB{p:Prop}(h:p:=by omega):p:=h
theorem AC{p:Prop}(h:p:=by decide+kernel):p:=h
theorem AD{p:Prop}(h:p:=by decide):p:=h
theorem AM{p:Prop}(h:p:=by simp):p:=h
theorem AN{p:Prop}(h:p:=by simp only;omega):p:=h
theorem AP{p:Prop}(h:p:=by simp;omega):p:=h
theorem AV{p:Prop}(h:p:=by simp[AO]):p:=h
theorem AZ{p:Prop}(h:p:=by simp[Fam.DX]):p:=h
theorem Aa{p:Prop}(h:p:=by simp[wO,IM]):p:=h
abbrev bZ:=@List.getElem?_eq_getElem
abbrev de:=@List.mem_singleton
abbrev d0:=@if_neg
abbrev d7:=@List.getElem?_eq_some_iff
abbrev d9:=@if_pos
abbrev f4:=@Prod.mk.injEq
abbrev f5:=@List.getElem_mem
abbrev f6:=@Bool.and_eq_true
abbrev f7:=@Array.getElem?_eq_some_iff
abbrev f8:=@Option.some.inj
abbrev ja:=@List.mem_cons
abbrev jK:=@Nat.le_refl
abbrev kW:=@List.mem_cons_of_mem
abbrev lF:=@List.perm_append_comm
abbrev lZ:=@List.append_assoc
abbrev mt:=@Nat.lt_or_ge
abbrev no:=@Array.getD_eq_getD_getElem?
abbrev sN:=@Array.getElem?_setIfInBounds_ne
abbrev sO:=@List.mem_append
abbrev sP:=@List.getD_eq_getElem?_getD
abbrev sQ:=@List.getElem?_append_right
abbrev sR:=@List.length_append
abbrev sS:=@List.not_mem_nil
abbrev sT:=@Array.getElem?_setIfInBounds_self_of_lt
abbrev sU:=@List.mem_of_getElem?
abbrev sW:=@List.length_set
abbrev sX:=@List.getElem?_append_left
abbrev sY:=@Bool.toNat_false
abbrev sZ:=@Nat.le_of_ble_eq_true
abbrev s0:=@List.getElem?_set_ne
abbrev s3:=@Nat.le_trans
abbrev s4:=@List.mem_range
abbrev s5:=@Bool.false_eq_true
abbrev s6:=@List.append_nil
abbrev s7:=@congrArg
abbrev s9:=@Bool.eq_false_iff
abbrev ta:=@Array.getElem?_eq_none
abbrev tb:=@List.length_cons
abbrev tc:=@Bool.toNat_true
abbrev td:=@List.all_eq_true
abbrev tf:=@List.take_length
abbrev tg:=@List.eq_nil_of_length_eq_zero
abbrev th:=@decide_eq_true
abbrev ti:=@Ne.symm
abbrev tj:=@List.mem_iff_getElem?
abbrev tk:=@List.flatten_cons
abbrev tl:=@Array.getElem?_eq_getElem
abbrev tn:=@List.mem_map
abbrev tp:=@List.take_add_one
abbrev tq:=@List.getElem?_toArray
abbrev tr:=@Option.map_eq_some_iff
abbrev ts:=@Decidable.byContradiction
abbrev tt:=@Int.toNat_natCast
abbrev tu:=@List.Perm.refl
abbrev tv:=@List.mem_append_left
abbrev tx:=@Nat.pow_le_pow_right
abbrev tz:=@Nat.zero_le
abbrev tA:=@decide_eq_false
abbrev tB:=@List.nil_append
abbrev tC:=@List.getElem?_set_self
abbrev tD:=@List.getElem?_set
abbrev tE:=@List.map_append
abbrev tF:=@List.drop_eq_getElem_cons
abbrev tG:=@List.mem_append_right
abbrev tH:=@List.cons_append
abbrev tI:=@List.mem_cons_self
abbrev tJ:=@Nat.mul_le_mul_right
abbrev tK:=@List.getElem?_eq_none
abbrev tL:=@List.Perm.append_left
abbrev tM:=@List.perm_middle
abbrev tN:=@Array.getElem?_toList
abbrev tO:=@Nat.eq_zero_or_pos
abbrev tP:=@if_false
abbrev tQ:=@Nat.add_zero
abbrev tR:=@List.find?_range_eq_some
abbrev tS:=@if_true
abbrev tT:=@Option.some.injEq
abbrev tU:=@List.nodup_append
abbrev tV:=@List.getElem?_map
abbrev tW:=@Nat.lt_of_lt_of_le
abbrev tX:=@List.map_cons
abbrev tY:=@Array.ext_getElem?
abbrev tZ:=@Nat.succ_mul
abbrev t6:=@or_false
abbrev t7:=@List.length_take
abbrev t8:=@Bool.or_eq_true
abbrev t9:=@List.length_map
abbrev ua:=@Array.getElem?_append_left
abbrev ub:=@List.getElem?_cons_zero
abbrev uc:=@of_decide_eq_true
abbrev ud:=@List.ext_getElem?
abbrev ue:=@List.getElem?_take
abbrev uf:=@Option.map_some
abbrev ug:=@List.flatten_append
abbrev uh:=@Classical.choose_spec
abbrev ui:=@List.length_singleton
abbrev uj:=@decide_eq_true_eq
abbrev uk:=@List.take_of_length_le
abbrev ul:=@List.mem_toArray
abbrev um:=@Option.toList_some
abbrev un:=@List.findIdx_lt_length_of_exists
abbrev uo:=@Nat.zero_add
abbrev uq:=@Decidable.not_not
abbrev ur:=@List.length_range
abbrev ut:=@Array.ext'
abbrev uu:=@List.mem_filter
abbrev uv:=@Array.getElem?_modify
abbrev uw:=@List.length_replicate
abbrev ux:=@Array.mem_append
abbrev uy:=@List.mem_of_mem_eraseIdx
abbrev uz:=@Bool.false_ne_true
abbrev uB:=@Nat.lt_of_le_of_lt
abbrev uC:=@List.mem_iff_getElem
abbrev uD:=@Option.bind_eq_some_iff
abbrev uE:=@List.getElem?_cons_succ
abbrev uF:=@List.set_set
abbrev uG:=@Nat.add_mul
abbrev uH:=@List.eraseIdx_append_of_length_le
abbrev uI:=@beq_iff_eq
abbrev uJ:=@List.sum_cons
abbrev uK:=@Array.getElem?_map
abbrev uL:=@List.pairwise_cons
abbrev uM:=@Array.mapM_eq_mapM_toList
abbrev uN:=@Nat.min_eq_left
abbrev uO:=@Nat.sub_zero
abbrev uP:=@List.eq_of_mem_replicate
abbrev uQ:=@List.findIdx_getElem
abbrev uR:=@List.size_toArray
abbrev uS:=@Nat.add_assoc
abbrev uT:=@List.set_comm
abbrev uU:=@List.replicate_succ
abbrev uV:=@List.countP_pos_iff
abbrev uW:=@List.mem_flatten
abbrev uX:=@List.find?_cons_of_neg
abbrev uY:=@Nat.testBit_lt_two_pow
abbrev uZ:=@List.set_cons_zero
abbrev u0:=@Nat.zero_mul
abbrev u3:=@Array.all_eq_true'
abbrev u4:=@List.find?_eq_none
abbrev u5:=@List.foldl_cons
abbrev u6:=@List.forIn_cons
abbrev u7:=@List.filterMap_append
abbrev u9:=@Int.fdiv_eq_ediv_of_nonneg
abbrev vb:=@List.length_eraseIdx_of_lt
abbrev vc:=@Bool.not_eq_true'
abbrev vd:=@List.foldl_append
abbrev ve:=@List.mem_or_eq_of_mem_set
abbrev vf:=@Nat.shiftRight_eq_div_pow
abbrev vg:=@List.forIn_nil
abbrev vh:=@Nat.sub_self
abbrev vi:=@List.flatten_nil
abbrev vj:=@Int.mul_comm
abbrev vk:=@Nat.lt_succ_iff_lt_or_eq
abbrev vl:=@List.mem_map_of_mem
abbrev vm:=@Array.toList_filter
abbrev vn:=@List.eraseIdx_eq_take_drop_succ
abbrev vp:=@List.length_eq_zero_iff
abbrev vq:=@List.getElem?_replicate
abbrev vr:=@Bool.toNat_le
abbrev vu:=@of_decide_eq_false
abbrev vv:=@Option.isSome_none
abbrev vw:=@List.nodup_cons
abbrev vx:=@List.cons.injEq
abbrev vy:=@Array.forIn_toList
abbrev vz:=@List.mem_replicate
abbrev vA:=@List.drop_eq_nil_of_le
abbrev vB:=@Int.mul_le_mul_of_nonneg_left
abbrev vC:=@iff_of_false
abbrev vD:=@Array.mem_toList_iff
abbrev vE:=@BitVec.ofInt_natCast
abbrev vF:=@List.pairwise_append
abbrev vG:=@BitVec.toNat_and
abbrev vH:=@List.mem_flatMap
abbrev vI:=@List.drop_length
abbrev vJ:=@List.take_set
abbrev vK:=@List.length_pos_iff
abbrev vL:=@Std.Legacy.Range.forIn_eq_forIn_range'
abbrev vM:=@List.filter_eq_self
abbrev vN:=@Classical.byContradiction
abbrev vO:=@List.range_succ
abbrev vP:=@Option.isSome_iff_exists
abbrev vQ:=@List.set_cons_succ
abbrev vR:=@Array.append_empty
abbrev vS:=@Option.isSome_some
abbrev vT:=@List.mem_filterMap
abbrev vU:=@Array.setIfInBounds_comm
abbrev vV:=@BitVec.toNat_ofNat
abbrev vW:=@List.getElem?_drop
abbrev vX:=@List.zip_cons_cons
abbrev vY:=@Bool.eq_false_or_eq_true
abbrev vZ:=@Nat.one_le_two_pow
abbrev v3:=@Nat.pow_succ
abbrev v5:=@List.length_filterMap_le
abbrev v7:=@List.filterMap_map
abbrev v8:=@Nat.lt_or_eq_of_le
abbrev v9:=@List.find?_map
abbrev wa:=@decide_eq_false_iff_not
abbrev wb:=@Nat.or_lt_two_pow
abbrev wc:=@Array.getElem?_extract
abbrev wd:=@List.Perm.append_right
abbrev we:=@Array.toList_map
abbrev wh:=@Prod.ext
abbrev wi:=@List.countP_cons
abbrev wj:=@List.length_drop
abbrev wk:=@Array.mem_iff_getElem
abbrev wm:=@List.set_getElem_self
abbrev wn:=@Nat.mod_lt
abbrev wo:=@List.length_nil
abbrev wp:=@Nat.eq_of_testBit_eq
abbrev wq:=@Nat.two_pow_pos
abbrev wu:=@Decidable.of_not_not
abbrev wv:=@Nat.pow_lt_pow_right
abbrev ww:=@List.take_append_of_le_length
abbrev wx:=@Nat.shiftLeft_add_eq_or_of_lt
abbrev wy:=@Array.getElem?_push
abbrev wz:=@List.getElem?_range
abbrev wA:=@Array.length_toList
abbrev wB:=@List.flatMap_append
abbrev wC:=@List.mapM_cons
abbrev wD:=@List.drop_zero
abbrev wE:=@List.nodup_nil
abbrev wF:=@List.getElem?_concat_length
abbrev wG:=@BitVec.toNat_ofInt
abbrev wH:=@Nat.testBit_two_pow_sub_one
abbrev wI:=@Bool.not_true
abbrev wJ:=@Bool.false_or
abbrev wK:=@Classical.not_not
abbrev wL:=@List.findIdx_cons
abbrev wM:=@List.exists_mem_of_ne_nil
abbrev wN:=@List.zipIdx_cons
abbrev wP:=@Nat.add_comm
abbrev wQ:=@and_true
abbrev wR:=@List.map_nil
abbrev wT:=@List.range'_succ
abbrev wU:=@Array.toList_inj
abbrev wV:=@List.eraseIdx_cons_zero
abbrev wW:=@List.filter_cons_of_neg
abbrev wX:=@List.filter_cons_of_pos
abbrev wY:=@Int.natCast_mul
abbrev wZ:=@List.of_mem_zip
abbrev w5:=@Nat.and_le_left
abbrev w6:=@Nat.testBit_and
abbrev w7:=@Int.le_refl
abbrev w8:=@Bool.not_false
abbrev w9:=@List.take_append_drop
abbrev xa:=@List.countP_le_length
abbrev xb:=@List.length_filter_le
abbrev xc:=@List.count_le_length
abbrev xd:=@List.set_append_left
abbrev xe:=@Int.mul_assoc
abbrev xf:=@Nat.ne_of_lt
abbrev xg:=@Nat.mul_comm
abbrev xh:=@List.sum_nil
abbrev xi:=@Int.pow_succ
abbrev xj:=@iff_of_true
abbrev xk:=@Int.pow_pos
abbrev tR_(n m:Nat):Array Bool:=⟨List.replicate n true++List.replicate m false⟩
abbrev LH:=Nat->Option Obj
structure St where
 E:LH
 H:LH
 q:Bool
abbrev Ld_:=List Deferred
abbrev Ao_:=Array Oper
abbrev Li_:=List Item
abbrev Ag(o:Array Oper)(i:Nat)(r:List Nat)(k:Li_):Li_:=.inRegion o (i::r)::k
abbrev Ah(o:Array Oper)(r:List Nat)(k:Li_):Li_:=.inRegion o r::k
abbrev Lf_:=List Frame
abbrev On_:=Option (Nat×Bool)
abbrev Ae_:=Array Edge
abbrev Gs_:=Goroutine->St->Prop
abbrev Lv_:=List Value
abbrev Av_:=Array Value
def St.get(s:St)(b:Nat):Option Obj:=match s.E b with | some o=>some o | none=>s.H b
structure Fits (s:St) (w:World):Prop where
 e:∀b o,s.E b=some o->w.heap[b]?=some o
 h:∀b o,s.H b=some o->w.heap[b]?=some o
 d:∀b,s.E b≠none->s.H b=none
variable{w:World}{o:Obj}
theorem Fits.get{s:St}(f:Fits s w){b:Nat}(h:s.get b=some o):w.heap[b]?=some o:=by
 unfold St.get at h;split at h;rename_i o' I;cases h;exact f.e _ _ I;exact f.h _ _ h
theorem Fits.Zw{s:St}(f:Fits s w){b:Nat}(h:s.H b=some o):b<w.heap.size:=by
 have:=f.h _ _ h
 grind
theorem Fits.lt{s:St}(f:Fits s w){b:Nat}(h:s.get b=some o):b<w.heap.size:=by
 have:=f.get h
 grind
def cellAt(o:Obj)(a:Addr):Option Value:=match o with | .cells c _ _=>if a.spot.isSome then none else c[a.off]? | _=>none
def frozenAt(o:Obj)(a:Addr):Bool:=match o with | .cells _ _ (lo,hi)=>lo<=a.off&&a.off<hi | _=>false
def shapeOf(o:Obj):Option (TypeId×Nat):=match o with | .cells c e _=>some (e,c.size) | _=>none
def Dz:Value->Bool | .agg _ | .tuple _=>false | _=>true
def Mx(o:Obj)(a:Addr)(v:Value):Obj:=match o with | .cells c e f=>.cells (if a.spot.isSome then c else c.setIfInBounds a.off v) e f | o=>o
def Lw(o:Obj):Bool:=match o with | .cells ..=>false | .chan ..=>false | .pending ..=>false | .view ..=>false | .number ..=>false | _=>true
def St.cell? (s:St)(a:Addr):Option Value:=(s.get a.block).bind (cellAt · a)
def St.upd(s:St)(b:Nat)(o:Obj):St:={s with H:=λx=>if x=b then some o else s.H x}
theorem Vz{a:Addr}(h:w.heap[a.block]?=some o):w.cell? a=cellAt o a:=by
 unfold World.cell? cellAt;rw[h];cases o<;>rfl
theorem Vh{a:Addr}(h:w.heap[a.block]?=some o):w.frozen? a=frozenAt o a:=by
 unfold World.frozen? frozenAt;rw[h];cases o<;>rfl
theorem Z9{b:Nat}(h:w.heap[b]?=some o):w.shape? b=shapeOf o:=by
 unfold World.shape? shapeOf;rw[h];cases o<;>rfl
def lp(P:Program){α:Type}:Sem α->St->(α->St->Prop)->(Halt->St->Prop)->Prop
 | .pure a,s,Q,_=>Q a s
 | .load m a k,s,Q,X=>m=.plain/\∃v,s.cell? a=some v/\lp P (k v) s Q X
 | .store m a v k,s,Q,X=>m=.plain/\Dz v=true/\∃o,s.H a.block=some o/\(cellAt o a).isSome=true/\frozenAt o a=false/\lp P k (s.upd a.block (Mx o a v)) Q X
 | .new o k,s,Q,X=>s.q=false/\∀r,s.E r=none->s.H r=none->lp P (k r) (s.upd r o) Q X
 | .shape r k,s,Q,X=>∃o,s.get r=some o/\lp P (k (shapeOf o)) s Q X
 | .freeze _ _ _,_,_,_=>False
 | .frozen a k,s,Q,X=>∃o,s.get a.block=some o/\lp P (k (frozenAt o a)) s Q X
 | .getObj r k,s,Q,X=>∃o,s.get r=some o/\Lw o=true/\lp P (k o) s Q X
 | .setObj r o k,s,Q,X=>(∃o₀,s.H r=some o₀/\Lw o₀=true)/\Lw o=true/\lp P k (s.upd r o) Q X
 | .choose q k,s,Q,X=>if q.forced then lp P (k 0) s Q X else s.q=false/\∀t,lp P (k (q.cut t)) s Q X
 | .sys _ _,_,_,_=>False
 | .program k,s,Q,X=>lp P (k P) s Q X
 | .mark m k,s,Q,X=>((s.q=false/\m=.noRoom)∨∃f,m=.extern f)/\lp P k s Q X
 | .halt h,s,_,X=>X h s
variable{α:Type}
theorem Fy{P:Program}(x:Sem α):∀{s:St}{Q U:α->St->Prop}{X Y:Halt->St->Prop},lp P x s Q X->(∀a s,Q a s->U a s)->(∀h s,X h s->Y h s)->lp P x s U Y:=by
 induction x with
 | pure a=>intro s Q U X Y h I K;exact I _ _ h
 | load m a k O=>intro s Q U X Y h I K;obtain⟨Z,v,ac,ag⟩:=h;exact⟨Z,v,ac,O _ ag I K⟩
 | store m a v k O=>intro s Q U X Y h I K;obtain⟨Z,ac,o,ag,aj,al,am⟩:=h;exact⟨Z,ac,o,ag,aj,al,O am I K⟩
 | new o k O=>intro s Q U X Y h I K;exact⟨h.1,λr Z ac=>O _ (h.2 r Z ac) I K⟩
 | shape r k O=>intro s Q U X Y h I K;obtain⟨o,Z,ac⟩:=h;exact⟨o,Z,O _ ac I K⟩
 | freeze a n k O=>intro s Q U X Y h I K;exact h
 | frozen a k O=>intro s Q U X Y h I K;obtain⟨o,Z,ac⟩:=h;exact⟨o,Z,O _ ac I K⟩
 | getObj r k O=>intro s Q U X Y h I K;obtain⟨o,Z,ac,ag⟩:=h;exact⟨o,Z,ac,O _ ag I K⟩
 | setObj r o k O=>intro s Q U X Y h I K;obtain⟨Z,ac,ag⟩:=h;exact⟨Z,ac,O ag I K⟩
 | choose q k O=>
  intro s Q U X Y h I K;simp only[lp] at h ⊢;split;rename_i ai;rw[d9 ai] at h;exact O _ h I K;rename_i ai;rw[d0 ai] at h;exact⟨h.1,λt=>O _ (h.2 t) I K⟩
 | sys c k O=>intro s Q U X Y h I K;exact h
 | program k O=>intro s Q U X Y h I K;exact O _ h I K
 | mark m k O=>intro s Q U X Y h I K;exact⟨h.1,O h.2 I K⟩
 | halt h=>intro s Q U X Y h I K;exact K _ _ h
variable{β:Type}
theorem AH{P:Program}(x:Sem α)(f:α->Sem β):∀{s:St}{Q:β->St->Prop}{X:Halt->St->Prop},lp P x s (λa s'=>lp P (f a) s' Q X) X->lp P (x>>=f) s Q X:=by
 show ∀{s:St}{Q:β->St->Prop}{X:Halt->St->Prop},lp P x s (λa s'=>lp P (f a) s' Q X) X->lp P (Sem.bind x f) s Q X
 induction x with
 | pure a=>intro s Q X h;exact h
 | load m a k I=>intro s Q X h;obtain⟨K,v,O,U⟩:=h;exact⟨K,v,O,I _ U⟩
 | store m a v k I=>intro s Q X h;obtain⟨K,O,o,U,Z,ac,ag⟩:=h;exact⟨K,O,o,U,Z,ac,I ag⟩
 | new o k I=>intro s Q X h;exact⟨h.1,λr K O=>I _ (h.2 r K O)⟩
 | shape r k I=>intro s Q X h;obtain⟨o,K,O⟩:=h;exact⟨o,K,I _ O⟩
 | freeze a n k I=>intro s Q X h;exact h
 | frozen a k I=>intro s Q X h;obtain⟨o,K,O⟩:=h;exact⟨o,K,I _ O⟩
 | getObj r k I=>intro s Q X h;obtain⟨o,K,O,U⟩:=h;exact⟨o,K,O,I _ U⟩
 | setObj r o k I=>intro s Q X h;obtain⟨K,O,U⟩:=h;exact⟨K,O,I U⟩
 | choose q k I=>
  intro s Q X h;simp only[lp,Sem.bind] at h ⊢;split;rename_i Y;rw[d9 Y] at h;exact I _ h;rename_i Y;rw[d0 Y] at h;exact⟨h.1,λt=>I _ (h.2 t)⟩
 | sys c k I=>intro s Q X h;exact h
 | program k I=>intro s Q X h;exact I _ h
 | mark m k I=>intro s Q X h;exact⟨h.1,I h.2⟩
 | halt h=>intro s Q X h;exact h
structure Fr (s:St) (w:World) (s':St) (w':World):Prop where
 size:w.heap.size<=w'.heap.size
 keep:∀b,b<w.heap.size->s.H b=none->w'.heap[b]?=w.heap[b]?
 own:∀b,s'.H b≠none->s.H b≠none∨w.heap.size<=b
 ext:∀b o,s.E b=some o->s'.E b=some o
 F8:∀b,s'.E b≠none->s.E b≠none∨s.H b≠none∨w.heap.size<=b
 tape:w'.tape=w.tape
 os:w'.os=w.os
 output:w'.output=w.output
theorem Fr.refl(s:St)(w:World):Fr s w s w:=
 ⟨jK _,λ_ _ _=>V,λ_ h=>.inl h,λ_ _ h=>h,λ_ h=>.inl h,V,V,V⟩
variable{O:World}
theorem Fr.trans{s I K:St}{U:World}(h:Fr s w I O)(k:Fr I O K U):Fr s w K U where
 size:=s3 h.size k.size
 keep b hb Y:=by
  rw[k.keep b (tW hb h.size) ?_,h.keep b hb Y];by_cases Z:I.H b=none;exact Z;rcases h.own b Z with x | x;exact absurd Y x;omega
 own b hb:=by
  rcases k.own b hb with x | x;exact h.own b x;exact .inr (s3 h.size x)
 ext b o ac:=k.ext b o (h.ext b o ac)
 F8 b hb:=by
  rcases k.F8 b hb with x | x | x;exact h.F8 b x;rcases h.own b x with y | y;exact .inr (.inl y);exact .inr (.inr y);exact .inr (.inr (s3 h.size x))
 tape:=k.tape.trans h.tape
 os:=k.os.trans h.os
 output:=k.output.trans h.output
def H6(s:St)(w w':World)(b:Nat)(write:Bool):Prop:=
 b<w'.heap.size/\(s.H b≠none∨w.heap.size<=b∨(s.E b≠none/\write=false))
def Ev(s:St)(w w':World)(e:Event):Prop:=
 match e.loc with
 | .cell a=>e.sync=false/\H6 s w w' a.block e.write
 | .obj r=>e.sync=false/\H6 s w w' r e.write
 | .mark (.extern _)=>True
 | .mark .noRoom=>True
 | _=>False
variable{K w':World}{wr:Bool}
theorem H6.Aj{s I:St}{b:Nat}(h:Fr s w I K)(hs:w'.heap.size<=O.heap.size)(t:H6 I K w' b wr):H6 s w O b wr:=by
 refine⟨tW t.1 hs,?_⟩;rcases t.2 with x | x | ⟨x,y⟩;rcases h.own b x with z | z;exact .inl z;exact .inr (.inl z);exact .inr (.inl (s3 h.size x))
 .rcases h.F8 b x with z | z | z
  all_goals grind
theorem Ev.Aj{s I:St}{e:Event}(h:Fr s w I K)(hs:w'.heap.size<=O.heap.size)(t:Ev I K w' e):Ev s w O e:=by
 unfold Ev at t ⊢;split<;>rename_i he<;>simp only[he] at t;exact⟨t.1,t.2.Aj h hs⟩;exact⟨t.1,t.2.Aj h hs⟩;trivial;trivial
def MI{α:Type}:Result α->World | .ok _ w=>w | .halt _ w=>w
def jz{α:Type}(Q:α->St->Prop)(X:Halt->St->Prop)(s:St):Result α->Prop | .ok a _=>Q a s | .halt h _=>X h s
theorem Wy{s:St}{b:Nat}(h:s.get b=some o)(I:s.H b=none):s.E b≠none:=by
 grind [St.get]
theorem Ti{s:St}{b:Nat}(f:Fits s w)(O:s.E b=none)(hb:w'.heap[b]?=some o)(U:∀c,c≠b->∀x,w.heap[c]?=some x->w'.heap[c]?=some x):Fits (s.upd b o) w' where
 e c x I:=by
  have K:c≠b:=λe=>by subst e;simp[St.upd] at I;rw[O] at I;cases I
  exact U c K x (f.e c x I)
 h c x I:=by
  simp only[St.upd] at I;split at I;rename_i e;subst e;cases I;exact hb;rename_i K;exact U c K x (f.h c x I)
 d c I:=by
  have K:c≠b:=λe=>by subst e;exact I O
  simp only[St.upd,d0 K];exact f.d c I
theorem P4{P:Program}(x:Sem α):∀{s:St}{w:World}{Q:α->St->Prop}{X:Halt->St->Prop},lp P x s Q X->Fits s w->
  ∃s',Fits s' (MI (x.run P w))/\Fr s w s' (MI (x.run P w))/\(∀e∈x.events P w #[],Ev s w (MI (x.run P w)) e)/\jz Q X s' (x.run P w):=by
 induction x with
 | pure a=>intro s w Q X h f;exact⟨s,f,.refl _ _,by simp[Sem.events_pure'],h⟩
 | load m a k K=>
  intro s w Q X h f;obtain⟨rfl,v,a1,h⟩:=h;let⟨o,I,be⟩:=uD.1 a1;have hw:=f.get I;have a2:w.cell? a=some v:=by rw[Vz hw,be]
  have O:(Sem.load Mode.plain a k).run P w=(k v).run P w:=by simp[Sem.run,a2]
  have U:(Sem.load Mode.plain a k).events P w #[]=#[⟨.cell a,false,false⟩]++(k v).events P w #[]:=by
   rw[← Sem.events_acc];simp only[Sem.events,Sem.runT,a2];rfl
  rw[O,U];refine let⟨s',Z,Y,ac,ag⟩:=K v h f;⟨s',Z,Y,λe he=>?_,ag⟩;rcases ux.1 he with he | he;simp at he;subst he;refine⟨V,tW (f.lt I) Y.size,?_⟩;by_cases av:s.H a.block=none;refine .inr (.inr ⟨?_,V⟩);exact Wy I av;exact .inl av;exact ac e he
 | store m a v k K=>
  intro s w Q X h f;obtain⟨rfl,a1,o,I,a2,bg,h⟩:=h;have hw:=f.h _ _ I;let⟨u,hu⟩:=vP.1 a2;have a7:w.cell? a=some u:=by rw[Vz hw,hu]
  have a8:w.frozen? a=false:=by rw[Vh hw,bg]
  have a3:=f.Zw I;obtain⟨a5,a6,f0,rfl⟩:∃c e f,o=.cells c e f:=by cases o<;>simp[cellAt] at hu;exact⟨_,_,_,V⟩
  have bi:(w.setCell a v).heap[a.block]?=some (Mx (.cells a5 a6 f0) a v):=by
   simp[World.setCell,Mx,uv,hw]
  have aw:∀c,c≠a.block->(w.setCell a v).heap[c]?=w.heap[c]? :=by
   intro c al;simp[World.setCell,uv,ti al]
  have aj:s.E a.block=none:=by
   cases aj:s.E a.block with
   | none=>rfl
   | some x=>have:=f.d a.block (by rw[aj];simp);rw[I] at this;cases this
  have ay:Fits (s.upd a.block (Mx (.cells a5 a6 f0) a v)) (w.setCell a v):=Ti f aj bi (λc al x am=>by rw[aw c al];exact am);have O:(Sem.store Mode.plain a v k).run P w=k.run P (w.setCell a v):=by
   cases v<;>first | (simp[Dz] at a1;done) | simp[Sem.run,a7,a8]
  have U:(Sem.store Mode.plain a v k).events P w #[]=#[⟨.cell a,true,false⟩]++k.events P (w.setCell a v) #[]:=by
   rw[← Sem.events_acc];cases v<;>first | (simp[Dz] at a1;done) | (simp only[Sem.events,Sem.runT,a7,a8];rfl)
  have ai:Fr s w (s.upd a.block (Mx (.cells a5 a6 f0) a v)) (w.setCell a v):=by
   refine⟨by simp[World.setCell],λb hb ap=>aw b (λe=>by subst e;rw[I] at ap;cases ap),λb hb=>?_,λ_ _ h=>h,λ_ h=>.inl h,V,V,V⟩;simp only[St.upd] at hb;split at hb;rename_i e;subst e;exact .inl (by rw[I];simp);exact .inl hb
  rw[O,U];refine let⟨s',Z,Y,ac,ag⟩:=K h ay;⟨s',Z,ai.trans Y,λe he=>?_,ag⟩;rcases ux.1 he with he | he;simp at he;subst he;exact⟨V,tW a3 (ai.trans Y).size,.inl (by rw[I];simp)⟩;exact(ac e he).Aj ai (jK _)
 | new o k K=>
  intro s w Q X h f;have a9:s.E w.heap.size=none:=by
   cases aj:s.E w.heap.size with
   | none=>rfl
   | some x=>have:=f.e _ _ aj;simp at this
  have bn:s.H w.heap.size=none:=by
   cases aj:s.H w.heap.size with
   | none=>rfl
   | some x=>have:=f.h _ _ aj;simp at this
  have O:(Sem.new o k).run P w=(k w.heap.size).run P {w with heap:=w.heap.push o}:=by simp[Sem.run]
  have U:(Sem.new o k).events P w #[]=(k w.heap.size).events P {w with heap:=w.heap.push o} #[]:=by simp only[Sem.events,Sem.runT]
  rw[O,U];have ay:Fits (s.upd w.heap.size o) {w with heap:=w.heap.push o}:=Ti f a9 AM (λc al x am=>by
   have:c<w.heap.size:=by
    rcases mt c w.heap.size with az | az;exact az;simp[ta az] at am
   simp[wy,xf this,am])
  have ai:Fr s w (s.upd w.heap.size o) {w with heap:=w.heap.push o}:=by
   refine⟨AM,λb hb ap=>by simp[wy,xf hb],λb hb=>?_,λ_ _ h=>h,λ_ h=>.inl h,V,V,V⟩;simp only[St.upd] at hb;split at hb;rename_i e;subst e;exact .inr (jK _);exact .inl hb
  let⟨s',Z,Y,ac,ag⟩:=K _ (h.2 _ a9 bn) ay;exact⟨s',Z,ai.trans Y,λe he=>(ac e he).Aj ai (jK _),ag⟩
 | shape r k K=>
  intro s w Q X h f;obtain⟨o,I,h⟩:=h;have a0:=Z9 (f.get I);have O:(Sem.shape r k).run P w=(k (shapeOf o)).run P w:=by simp[Sem.run,a0]
  have U:(Sem.shape r k).events P w #[]=(k (shapeOf o)).events P w #[]:=by simp only[Sem.events,Sem.runT,a0]
  rw[O,U];exact K _ h f
 | freeze a n k K=>intro s w Q X h f;exact h.elim
 | frozen a k K=>
  intro s w Q X h f;obtain⟨o,I,h⟩:=h;have a0:=Vh (a:=a) (f.get I);have O:(Sem.frozen a k).run P w=(k (frozenAt o a)).run P w:=by simp[Sem.run,a0]
  have U:(Sem.frozen a k).events P w #[]=(k (frozenAt o a)).events P w #[]:=by simp only[Sem.events,Sem.runT,a0]
  rw[O,U];exact K _ h f
 | getObj r k K=>
  intro s w Q X h f;obtain⟨o,I,a4,h⟩:=h;have hw:=f.get I;have O:(Sem.getObj r k).run P w=(k o).run P w:=by cases o<;>simp[Lw] at a4<;>simp[Sem.run,hw]
  have U:(Sem.getObj r k).events P w #[]=#[⟨.obj r,false,false⟩]++(k o).events P w #[]:=by
   rw[← Sem.events_acc];cases o<;>simp[Lw] at a4<;>(simp only[Sem.events,Sem.runT,hw,Obj.isChan];rfl)
  rw[O,U];refine let⟨s',Z,Y,ac,ag⟩:=K o h f;⟨s',Z,Y,λe he=>?_,ag⟩;rcases ux.1 he with he | he;simp at he;subst he;refine⟨V,tW (f.lt I) Y.size,?_⟩;by_cases av:s.H r=none;refine .inr (.inr ⟨?_,V⟩);exact Wy I av;exact .inl av;exact ac e he
 | setObj r o k K=>
  intro s w Q X h f;obtain⟨⟨o₀,I,bb⟩,a4,h⟩:=h;have hw:=f.h _ _ I;have a3:=f.Zw I;have aj:s.E r=none:=by
   cases aj:s.E r with
   | none=>rfl
   | some x=>have:=f.d r (by rw[aj];simp);rw[I] at this;cases this
  have O:(Sem.setObj r o k).run P w=k.run P {w with heap:=w.heap.setIfInBounds r o}:=by
   cases o₀<;>simp[Lw] at bb<;>simp[Sem.run,hw]
  have U:(Sem.setObj r o k).events P w #[]=#[⟨.obj r,true,false⟩]++k.events P {w with heap:=w.heap.setIfInBounds r o} #[]:=by
   rw[← Sem.events_acc];cases o₀<;>simp[Lw] at bb<;>cases o<;>simp[Lw] at a4<;>(simp only[Sem.events,Sem.runT,hw,Obj.isChan];rfl)
  have aw:∀c,c≠r->(w.heap.setIfInBounds r o)[c]?=w.heap[c]? :=λc al=>by simp[ti al]
  have ay:Fits (s.upd r o) {w with heap:=w.heap.setIfInBounds r o}:=Ti f aj (by simp[a3]) (λc al x am=>by show(w.heap.setIfInBounds r o)[c]?=_;rw[aw c al];exact am);have ai:Fr s w (s.upd r o) {w with heap:=w.heap.setIfInBounds r o}:=by
   refine⟨AM,λb hb ap=>aw b (λe=>by subst e;rw[I] at ap;cases ap),λb hb=>?_,λ_ _ h=>h,λ_ h=>.inl h,V,V,V⟩;simp only[St.upd] at hb;split at hb;rename_i e;subst e;exact .inl (by rw[I];simp);exact .inl hb
  rw[O,U];refine let⟨s',Z,Y,ac,ag⟩:=K h ay;⟨s',Z,ai.trans Y,λe he=>?_,ag⟩;rcases ux.1 he with he | he;simp at he;subst he;exact⟨V,tW a3 (ai.trans Y).size,.inl (by rw[I];simp)⟩;exact(ac e he).Aj ai (jK _)
 | choose q k K=>
  intro s w Q X h f;simp only[lp] at h;by_cases aq:q.forced
  .rw [d9 aq] at h;have O:(Sem.choose q k).run P w=(k 0).run P w:=by simp[Sem.run,aq]
   have U:(Sem.choose q k).events P w #[]=(k 0).events P w #[]:=by simp only[Sem.events,Sem.runT];rw[d9 aq]
   rw[O,U];exact K _ h f
  .rw [d0 aq] at h;have O:(Sem.choose q k).run P w=(k (q.cut (w.tape w.drawn q))).run P {w with drawn:=w.drawn+1}:=by simp[Sem.run,aq]
   have U:(Sem.choose q k).events P w #[]=(k (q.cut (w.tape w.drawn q))).events P {w with drawn:=w.drawn+1} #[]:=by simp only[Sem.events,Sem.runT];rw[d0 aq]
   rw[O,U];have ai:Fr s w s {w with drawn:=w.drawn+1}:=⟨jK _,λ_ _ _=>rfl,λ_ h=>.inl h,λ_ _ h=>h,λ_ h=>.inl h,rfl,rfl,rfl⟩;let⟨s',Z,Y,ac,ag⟩:=K _ (h.2 (w.tape w.drawn q)) (⟨f.e,f.h,f.d⟩:Fits s {w with drawn:=w.drawn+1});exact⟨s',Z,ai.trans Y,λe he=>(ac e he).Aj ai (jK _),ag⟩
 | sys c k K=>intro s w Q X h f;exact h.elim
 | program k K=>
  intro s w Q X h f;have O:(Sem.program k).run P w=(k P).run P w:=by simp[Sem.run]
  have U:(Sem.program k).events P w #[]=(k P).events P w #[]:=by simp only[Sem.events,Sem.runT]
  rw[O,U];exact K _ h f
 | mark m k K=>
  intro s w Q X h f;have O:(Sem.mark m k).run P w=k.run P w:=by simp[Sem.run]
  have U:(Sem.mark m k).events P w #[]=#[⟨.mark m,false,true⟩]++k.events P w #[]:=by
   rw[← Sem.events_acc];simp only[Sem.events,Sem.runT];rfl
  rw[O,U];obtain⟨hm,h⟩:=h;refine let⟨s',Z,Y,ac,ag⟩:=K h f;⟨s',Z,Y,λe he=>?_,ag⟩;rcases ux.1 he with he | he;simp at he;subst he;rcases hm with⟨_,rfl⟩ | ⟨g,rfl⟩<;>trivial;exact ac e he
 | halt h=>intro s w Q X az f;exact⟨s,f,.refl _ _,by simp[Sem.events_halt],az⟩
variable{es:Array Event}
theorem Vm{P:Program}{fn:FuncId}(h:∀e∈es,∃f,e.loc=.mark (.extern f)):seen P fn es=#[]:=by
 rw[seen_def];have:∀(l:List Event) (q:Bool),(∀e∈l,∃f,e.loc=.mark (.extern f))->(l.foldl (seenStep λf=>(P.funcs[f]?).any (·.norace)) (q,#[])).2=#[]:=by
  intro l
  induction l with
  | nil=>intro q _;rfl
  | cons e l I=>
   intro q h;obtain⟨f,K⟩:=h e AM;rw[u5];have:seenStep (λf=>(P.funcs[f]?).any (·.norace)) (q,#[]) e=((P.funcs[f]?).any (·.norace),#[]):=by simp[seenStep,K]
   rw[this];exact I _ λx O=>h x (by simp[O])
 exact this es.toList _ λe he=>h e (vD.1 he)
def St.quiet:St:=⟨λ_=>none,λ_=>none,true⟩
theorem WZ{P:Program}(x:Sem α):∀{Q:α->St->Prop}{X:Halt->St->Prop},lp P x .quiet Q X->
  ∃es,(∀w,x.events P w #[]=es)/\(∀e∈es,∃f,e.loc=.mark (.extern f))/\((∃a,Q a .quiet/\(∀w,x.run P w=.ok a w))∨(∃a,X a .quiet/\(∀w,x.run P w=.halt a w))):=by
 induction x with
 | pure a=>intro Q X h;exact⟨#[],λw=>by simp[Sem.events_pure'],AM,.inl ⟨a,h,λw=>rfl⟩⟩
 | load m a k I=>intro Q X h;obtain⟨_,v,Y,_⟩:=h;simp[St.cell?,St.get,St.quiet] at Y
 | store m a v k I=>intro Q X h;obtain⟨_,_,o,Z,_⟩:=h;cases Z
 | new o k I=>intro Q X h;cases h.1
 | shape r k I=>intro Q X h;obtain⟨o,K,_⟩:=h;simp[St.get,St.quiet] at K
 | freeze a n k I=>intro Q X h;exact h.elim
 | frozen a k I=>intro Q X h;obtain⟨o,K,_⟩:=h;simp[St.get,St.quiet] at K
 | getObj r k I=>intro Q X h;obtain⟨o,K,_⟩:=h;simp[St.get,St.quiet] at K
 | setObj r o k I=>intro Q X h;obtain⟨⟨o,K,_⟩,_⟩:=h;cases K
 | choose q k I=>
  intro Q X h;simp only[lp] at h;by_cases O:q.forced
  .rw [d9 O] at h;have U:∀w,(Sem.choose q k).run P w=(k 0).run P w:=λw=>by simp[Sem.run,O]
   have e2:∀w,(Sem.choose q k).events P w #[]=(k 0).events P w #[]:=λw=>by simp only[Sem.events,Sem.runT];rw[d9 O]
   simpa only[U,e2] using I _ h
  .rw [d0 O] at h;cases h.1
 | sys c k I=>intro Q X h;exact h.elim
 | program k I=>
  intro Q X h;have U:∀w,(Sem.program k).run P w=(k P).run P w:=λw=>by simp[Sem.run]
  have e2:∀w,(Sem.program k).events P w #[]=(k P).events P w #[]:=λw=>by simp only[Sem.events,Sem.runT]
  simpa only[U,e2] using I _ h
 | mark m k I=>
  intro Q X h;obtain⟨hm,h⟩:=h;let⟨es,K,Y,Z⟩:=I h;have U:∀w,(Sem.mark m k).run P w=k.run P w:=λw=>by simp[Sem.run]
  have e2:∀w,(Sem.mark m k).events P w #[]=#[⟨.mark m,false,true⟩]++k.events P w #[]:=λw=>by rw[← Sem.events_acc];simp only[Sem.events,Sem.runT];rfl
  refine⟨#[⟨.mark m,false,true⟩]++es,λw=>by rw[e2,K],λe he=>?_,by simpa only[U] using Z⟩;rcases ux.1 he with he | he;simp at he;subst he;rcases hm with⟨O,_⟩ | hm;cases O;obtain⟨f,rfl⟩:=hm;exact⟨f,V⟩;exact Y e he
 | halt h=>intro Q X ac;exact⟨#[],λw=>by simp[Sem.events_halt],AM,.inr ⟨h,ac,λw=>rfl⟩⟩
def YJ(P:Program)(main:Bool)(g:Goroutine)(s:St)(K:Gs_):Prop:=
 g.status=.running/\(∀w,Fits s w->
  ∃g' s' w' es,stepG P main g w=.go g' w' es/\K g' s'/\Fits s' w'/\Fr s w s' w'/\(∀e∈es,Ev s w w' e))/\
  (s=.quiet->∃g',(∀w,stepG P main g w=.go g' w #[])/\K g' .quiet)
structure C7 (s s₀:St):Prop where
 ext:∀b o,s.E b=some o->s₀.E b=some o
 own:∀b o,s₀.H b=some o->s.H b=some o
 F8:∀b o,s₀.E b=some o->s.E b=some o∨(s.H b=some o/\s₀.H b=none)
 q:s₀.q=s.q
theorem C7.refl(s:St):C7 s s:=⟨λ_ _ h=>h,λ_ _ h=>h,λ_ _ h=>.inl h,V⟩
variable{s₀:St}
theorem C7.fits{s:St}(g:C7 s s₀)(f:Fits s w):Fits s₀ w where
 e b o h:=by
  rcases g.F8 b o h with x | x;exact f.e _ _ x;exact f.h _ _ x.1
 h b o h:=f.h _ _ (g.own _ _ h)
 d b h:=by
  cases I:s₀.E b with
  | none=>exact absurd I h
  | some o=>
   rcases g.F8 b o I with x | x
   .cases K:s₀.H b with
    | none=>rfl
    | some y=>have:=g.own _ _ K;rw[f.d b (by rw[x];simp)] at this;cases this
   .exact x.2
theorem Jx{x:Option α}(h:x≠none):∃a,x=some a:=by cases x<;>simp at h;exact⟨_,rfl⟩
theorem C7.fr{s s':St}(g:C7 s s₀)(f:Fr s₀ w s' w'):Fr s w s' w' where
 size:=f.size
 keep b hb K:=f.keep b hb (by
  cases h:s₀.H b with
  | none=>rfl
  | some o=>rw[g.own _ _ h] at K;cases K)
 own b hb:=(f.own b hb).imp (λh=>by let⟨o,I⟩:=Jx h;rw[g.own _ _ I];simp) id
 ext b o h:=f.ext _ _ (g.ext _ _ h)
 F8 b hb:=by
  rcases f.F8 b hb with h | h | h;let⟨o,I⟩:=Jx h;rcases g.F8 _ _ I with x | x;exact .inl (by rw[x];simp);exact .inr (.inl (by rw[x.1];simp));let⟨o,I⟩:=Jx h;exact .inr (.inl (by rw[g.own _ _ I];simp));exact .inr (.inr h)
 tape:=f.tape
 os:=f.os
 output:=f.output
theorem C7.H6{s:St}{b:Nat}(g:C7 s s₀)(t:H6 s₀ w w' b wr):H6 s w w' b wr:=by
 refine⟨t.1,?_⟩;rcases t.2 with h | h | ⟨h,hw⟩;exact let⟨o,I⟩:=Jx h;.inl (by rw[g.own _ _ I];simp);exact .inr (.inl h);let⟨o,I⟩:=Jx h;rcases g.F8 _ _ I with x | x;exact .inr (.inr ⟨by rw[x];simp,hw⟩);exact .inl (by rw[x.1];simp)
theorem C7.ev{s:St}{e:Event}(g:C7 s s₀)(t:Ev s₀ w w' e):Ev s w w' e:=by
 unfold Ev at t ⊢;split<;>rename_i he<;>simp only[he] at t;exact⟨t.1,g.H6 t.2⟩;exact⟨t.1,g.H6 t.2⟩;trivial;trivial
theorem C7.quiet(g:C7 .quiet s₀):s₀=.quiet:=by
 obtain⟨E,H,q⟩:=s₀;have I:E=λ_=>none:=by
  funext b;cases h:E b with
  | none=>rfl
  | some o=>rcases g.F8 b o h with x | ⟨x,_⟩<;>cases x
 have K:H=λ_=>none:=by
  funext b;cases h:H b with
  | none=>rfl
  | some o=>cases g.own b o h
 have O:q=true:=g.q;subst I K O;rfl
inductive Rk:Type where
 | leaf:Rk
 | node (f:World->Rk):Rk
def Rk.sub(a b:Rk):Prop:=∃f w,b=.node f/\a=f w
theorem Rk.wf:WellFounded Rk.sub:=⟨λr=>by
 induction r with
 | leaf=>exact⟨_,λa ⟨f,w,h,_⟩=>by cases h⟩
 | node f I=>exact⟨_,λa ⟨g,w,h,e⟩=>by cases h;subst e;exact I w⟩⟩
def Jr(P:Program)(main:Bool)(Q:Gs_):Rk->Gs_
 | .leaf,g,s=>Q g s
 | .node f,g,s=>Q g s∨(g.status=.running/\∀w,Fits s w->
  ∃g' s' w' es,stepG P main g w=.go g' w' es/\Jr P main Q (f w) g' s'/\Fits s' w'/\Fr s w s' w'/\(∀e∈es,Ev s w w' e)/\(s=.quiet->s'=.quiet/\w'=w/\es=#[]))
structure Judge (P:Program) where
 main:Bool
 ok:(Gs_)->Gs_
 stop:∀{Q g s},Q g s->ok Q g s
 step:∀{Q g s},YJ P main g s (ok Q)->ok Q g s
 trans:∀{Q R g s},ok Q g s->(∀g' s',Q g' s'->ok R g' s')->ok R g s
 ghost:∀{Q g s s₀},C7 s s₀->ok Q g s₀->ok Q g s
def JQ(Q:Gs_)(g:Goroutine)(s:St):Prop:=∃s₀,C7 s s₀/\Q g s₀
theorem C7.trans{a b c:St}(h:C7 a b)(k:C7 b c):C7 a c where
 ext x o y:=k.ext _ _ (h.ext _ _ y)
 own x o y:=h.own _ _ (k.own _ _ y)
 F8 x o y:=by
  rcases k.F8 x o y with z | z
  .rcases h.F8 x o z with u | u;exact .inl u
   .refine .inr ⟨u.1,?_⟩;cases I:c.H x with
    | none=>rfl
    | some v=>have:=k.own _ _ I;rw[u.2] at this;cases this
  .exact .inr ⟨h.own _ _ z.1,z.2⟩
 q:=k.q.trans h.q
def Bo(P:Program)(main:Bool):Judge P where
 main:=main
 ok Q g s:=∃r,Jr P main (JQ Q) r g s
 stop h:=⟨.leaf,_,.refl _,h⟩
 step {Q g s} h:=by
  obtain⟨O,h,hu⟩:=h;have Z:∀w,∃r:Rk,Fits s w->∃g' s' w' es,stepG P main g w=.go g' w' es/\Jr P main (JQ Q) r g' s'/\Fits s' w'/\Fr s w s' w'/\(∀e∈es,Ev s w w' e)/\(s=.quiet->s'=.quiet/\w'=w/\es=#[]):=by
   intro w;by_cases f:Fits s w
   .by_cases e:s=.quiet
    .let⟨g',I,r,K⟩:=hu e;exact⟨r,λ_=>⟨g',.quiet,w,#[],I w,K,e▸f,e▸ .refl _ _,AM,λ_=>⟨V,V,V⟩⟩⟩
    .let⟨g',s',w',es,I,⟨r,K⟩,U,ac,ag⟩:=h w f;exact⟨r,λ_=>⟨g',s',w',es,I,K,U,ac,ag,λx=>absurd x e⟩⟩
   .exact⟨.leaf,λx=>absurd x f⟩
  exact⟨.node λw=>Classical.choose (Z w),.inr ⟨O,λw f=>uh (Z w) f⟩⟩
 trans {Q R g s} h k:=by
  obtain⟨r,h⟩:=h;have aj:∀(r:Rk) {g:Goroutine}{s s₀:St},C7 s s₀->Jr P main (JQ R) r g s₀->Jr P main (JQ R) r g s:=by
   intro r g s s₀ hg hj;cases r with
   | leaf=>obtain⟨Y,I,K⟩:=hj;exact⟨Y,hg.trans I,K⟩
   | node f=>
    rcases hj with⟨Y,I,K⟩ | ⟨O,hj⟩
    .exact .inl ⟨Y,hg.trans I,K⟩
    .exact .inr ⟨O,λw f=>let ⟨g',s',w',es,I,K,U,ac,ag,ai⟩:=hj w (hg.fits f);⟨g',s',w',es,I,K,U,hg.fr ac,λe he=>hg.ev (ag e he),λe=>ai (by subst e;exact hg.quiet)⟩⟩
  induction r generalizing g s with
  | leaf=>
   obtain⟨s₀,I,K⟩:=h;let⟨r,O⟩:=k _ _ K;exact⟨r,aj r I O⟩
  | node f am=>
   rcases h with⟨s₀,I,K⟩ | ⟨O,h⟩
   .let⟨r,O⟩:=k _ _ K;exact⟨r,aj r I O⟩
   .have Z:∀w,∃r:Rk,Fits s w->∃g' s' w' es,stepG P main g w=.go g' w' es/\Jr P main (JQ R) r g' s'/\Fits s' w'/\Fr s w s' w'/\(∀e∈es,Ev s w w' e)/\(s=.quiet->s'=.quiet/\w'=w/\es=#[]):=by
     intro w;by_cases al:Fits s w
     .let⟨g',s',w',es,I,K,U⟩:=h w al;let⟨r,O⟩:=am w K;exact⟨r,λ_=>⟨g',s',w',es,I,O,U⟩⟩
     .exact⟨.leaf,λx=>absurd x al⟩
    exact⟨.node λw=>Classical.choose (Z w),.inr ⟨O,λw f=>uh (Z w) f⟩⟩
 ghost {Q g s s₀} hg h:=by
  obtain⟨r,hj⟩:=h;refine⟨r,?_⟩;cases r with
  | leaf=>obtain⟨Y,I,K⟩:=hj;exact⟨Y,hg.trans I,K⟩
  | node f=>
   rcases hj with⟨Y,I,K⟩ | ⟨O,hj⟩
   .exact .inl ⟨Y,hg.trans I,K⟩
   .exact .inr ⟨O,λw f=>let ⟨g',s',w',es,I,K,U,ac,ag,ai⟩:=hj w (hg.fits f);⟨g',s',w',es,I,K,U,hg.fr ac,λe he=>hg.ev (ag e he),λe=>ai (by subst e;exact hg.quiet)⟩⟩
def Lv(P:Program)(Q:Gs_):Nat->Goroutine->Prop
 | 0,g=>Q g .quiet
 | n+1,g=>Q g .quiet∨(g.status=.running/\∃g',(∀w,stepG P false g w=.go g' w #[])/\Lv P Q n g')
def JD(P:Program):Judge P where
 main:=false
 ok Q g s:=s=.quiet->∃n,Lv P Q n g
 stop h e:=⟨0,by subst e;exact h⟩
 step {Q g s} h e:=by
  let⟨g',I,K⟩:=h.2.2 e;let⟨n,O⟩:=K V;exact⟨n+1,.inr ⟨h.1,g',I,O⟩⟩
 trans {Q R g s} h k e:=by
  let⟨n,O⟩:=h e;have:∀n g,Lv P Q n g->∃m,Lv P R m g:=by
   intro n
   induction n with
   | zero=>intro g h;exact k _ _ h rfl
   | succ n U=>
    intro g h;rcases h with h | ⟨Y,g',I,K⟩
    .exact k _ _ h V
    .let⟨m,hm⟩:=U g' K;exact⟨m+1,.inr ⟨Y,g',I,hm⟩⟩
  exact this n g O
 ghost {Q g s s₀} hg h e:=by subst e;exact h hg.quiet
def fr(b:Frame)(T:Av_)(ds:Ld_)(todo:Li_):Frame:={b with tmps:=T,todo:=todo,defers:=ds,mode:=.run}
def FL(b:Frame)(T:Av_)(ds:Ld_)(todo:Li_):Frame:={b with tmps:=T,todo:=todo,defers:=ds,mode:=.returning}
def BZ(T:Av_):Operand->Value
 | .tmp t=>T.getD t undef
 | .const v=>v
 | .global g=>.pointer (some ⟨g,0,none⟩)
 | .func f=>.func (.func f) #[] #[]
abbrev Env:=List (Nat×Value)
def look:Env->Nat->Option Value
 | [],_=>none
 | (t,v)::L,u=>if t=u then some v else look L u
def ev(L:Env):Operand->Option Value
 | .tmp t=>look L t
 | .const v=>some v
 | .global g=>some (.pointer (some ⟨g,0,none⟩))
 | .func f=>some (.func (.func f) #[] #[])
structure Has (n:Nat) (L:Env) (T:Av_):Prop where
 size:T.size=n
 at_:∀t v,look L t=some v->T.getD t undef=v
variable{T:Av_}
theorem Has.ev{n:Nat}{L:Env}(h:Has n L T){x:Operand}{v:Value}(e:ev L x=some v):BZ T x=v:=by
 cases x with
 | tmp t=>exact h.at_ t v e
 | const u=>cases e;rfl
 | global g=>cases e;rfl
 | func f=>cases e;rfl
def DU(T:Av_):Option Tmp->Value->Av_
 | some d,v=>T.setIfInBounds d v
 | none,_=>T
def AG(L:Env):Option Tmp->Value->Env
 | some d,v=>(d,v)::L
 | none,_=>L
def BC(n:Nat):Option Tmp->Bool
 | some d=>d<n
 | none=>true
theorem dh(T:Av_)(d:Nat)(v:Value)(h:d<T.size)(t:Nat):(T.setIfInBounds d v).getD t undef=if d=t then v else T.getD t undef:=by
 by_cases e:d=t;subst e;simp[no,h];simp[no,e]
theorem Has.put{n:Nat}{L:Env}(h:Has n L T){d:Option Tmp}(hd:BC n d=true)(v:Value):Has n (AG L d v) (DU T d v):=by
 cases d with
 | none=>exact h
 | some d=>
  have I:d<T.size:=by rw[h.size];simpa [BC] using hd
  refine⟨by simp[DU,h.size],λt u hu=>?_⟩;simp only[DU,dh T d v I];simp only[AG,look] at hu;split at hu;rename_i e;rw[d9 e];exact f8 hu;rename_i e;rw[d0 e];exact h.at_ t u hu
def Sub:Env->Env->Prop
 | [],_=>True
 | (t,v)::L',L=>look L t=some v/\Sub L' L
theorem Sub.look{L:Env}:∀{L':Env},Sub L' L->∀t v,look L' t=some v->Pal.look L t=some v
 | [],_,t,v,e=>by simp[Pal.look] at e
 | (u,w)::L',h,t,v,e=>by
  simp only[Pal.look] at e
  split at e;rename_i I;subst I;cases e;exact h.1;exact Sub.look h.2 t v e
theorem Has.sub{n:Nat}{L L':Env}(h:Has n L T)(s:Sub L' L):Has n L' T:=⟨h.size,λt v e=>h.at_ t v (s.look t v e)⟩
variable {P:Program}
section
variable (J:Judge P)(Q:Gs_)
def JL(b:Frame)(n:Nat)(L:Env)(ds:Ld_)(todo:Li_)(cs:Lf_)(s:St):Prop:=
 ∀T,Has n L T->J.ok Q (G (fr b T ds todo) cs) s
end
variable {J:Judge P}{Q:Gs_}{L L':Env}{ds:Ld_}{k:Li_}{cs:Lf_}{s s':St}
variable{l:Nat}
section
variable {b:Frame}{n:Nat}
theorem Judge.EF{g g':Goroutine}(I:g.status=.running)(h:∀w,stepG P J.main g w=.go g' w)(k:J.ok Q g' s):J.ok Q g s:=
 J.step ⟨I,λw f=>⟨g',s,w,#[],h w,k,f,.refl _ _,AM⟩,λe=>⟨g',h,e▸k⟩⟩
abbrev Bk:=@Judge.EF
theorem EU(h:Sub L' L)(k':JL J Q b n L' ds k cs s):JL J Q b n L ds k cs s:=λT I=>k' T (I.sub h)
theorem JL.ghost(h:C7 s s')(k':JL J Q b n L ds k cs s'):JL J Q b n L ds k cs s:=λT I=>J.ghost h (k' T I)
theorem JL.skip(h:JL J Q b n L ds k cs s):JL J Q b n L ds (.code .skip::k) cs s:=λT I=>Bk V (λw=>by simp[G,stepG,stepG.exec,fr]) (h T I)
abbrev Bl:=@JL.skip
theorem JL.label(h:JL J Q b n L ds k cs s):JL J Q b n L ds (.code (.label l)::k) cs s:=λT I=>Bk V (λw=>by simp[G,stepG,stepG.exec,fr]) (h T I)
theorem Og{i:Nat}(h:JL J Q b n L ds k cs s):JL J Q b n L ds (.inBlock i::k) cs s:=λT I=>Bk V (λw=>by simp[G,stepG,stepG.exec,fr]) (h T I)
theorem Z3{c:Code}(h:JL J Q b n L ds k cs s):JL J Q b n L ds (.inScope c::k) cs s:=λT I=>Bk V (λw=>by simp[G,stepG,stepG.exec,fr]) (h T I)
theorem JL.seq{x y:Code}(h:JL J Q b n L ds (.code x:: .code y::k) cs s):JL J Q b n L ds (.code (.seq x y)::k) cs s:=λT I=>Bk V (λw=>by simp[G,stepG,stepG.exec,fr]) (h T I)
abbrev D5:=@JL.seq
theorem JL.block{i:Nat}{c:Code}(h:JL J Q b n L ds (.code c:: .inBlock i::k) cs s):JL J Q b n L ds (.code (.block i c)::k) cs s:=λT I=>Bk V (λw=>by simp[G,stepG,stepG.exec,fr]) (h T I)
abbrev Ay:=@JL.block
theorem JL.scope{c:Code}(h:JL J Q b n L ds (.code c:: .inScope c::k) cs s):JL J Q b n L ds (.code (.scope c)::k) cs s:=λT I=>Bk V (λw=>by simp[G,stepG,stepG.exec,fr]) (h T I)
theorem Ki{c:Code}(h:JL J Q b n L ds (.code c:: .inLoop c::k) cs s):JL J Q b n L ds (.code (.loop c)::k) cs s:=λT I=>Bk V (λw=>by simp[G,stepG,stepG.exec,fr]) (h T I)
theorem JL.again{c:Code}(h:JL J Q b n L ds (.code c:: .inLoop c::k) cs s):JL J Q b n L ds (.inLoop c::k) cs s:=λT I=>Bk V (λw=>by simp[G,stepG,stepG.exec,fr]) (h T I)
abbrev CY:=@JL.again
theorem JL.exit{i:Nat}{k':Li_}(I:exitTo i k=some k')(h:JL J Q b n L ds k' cs s):JL J Q b n L ds (.code (.exit i)::k) cs s:=λT K=>Bk V (λw=>by simp[G,stepG,stepG.exec,fr,I]) (h T K)
abbrev A3:=@JL.exit
theorem Xy(T:Av_)(todo:Li_)(x:Operand):(fr b T ds todo).eval x=BZ T x:=by cases x<;>rfl
theorem W3(T:Av_)(todo:Li_):(fr b T ds todo).eval=BZ T:=funext (Xy T todo)
theorem JL.cond{c:Operand}{x y:Code}{t:Bool}(O:ev L c=some (.bool t))(h:JL J Q b n L ds (.code (if t then x else y)::k) cs s):JL J Q b n L ds (.code (.cond c x y)::k) cs s:=λT K=>
 Bk V (λw=>by
  have I:=Xy (b:=b) (ds:=ds) T (.code (.cond c x y)::k) c
  rw[K.ev O] at I
  simp only[fr] at I
  simp[G,stepG,stepG.exec,fr,I]) (h T K)
theorem bq{c:Operand}{x y:Code}(I:ev L c=some (.bool true))(h:JL J Q b n L ds (.code x::k) cs s):JL J Q b n L ds (.code (.cond c x y)::k) cs s:=JL.cond I h
theorem bG{c:Operand}{x y:Code}(I:ev L c=some (.bool false))(h:JL J Q b n L ds (.code y::k) cs s):JL J Q b n L ds (.code (.cond c x y)::k) cs s:=JL.cond I h
theorem To{c:Operand}{x y:Code}{t:Bool}(I:ev L c=some (.bool t))(K:t=true->JL J Q b n L ds (.code x::k) cs s)(O:t=false->JL J Q b n L ds (.code y::k) cs s):JL J Q b n L ds (.code (.cond c x y)::k) cs s:=by
 cases t;exact JL.cond I (O V);exact JL.cond I (K V)
theorem HC{c:Operand}{x y:Code}{p:Prop} [Decidable p] (I:ev L c=some (.bool (decide p)))(K:p->JL J Q b n L ds (.code x::k) cs s)(O:¬p->JL J Q b n L ds (.code y::k) cs s):JL J Q b n L ds (.code (.cond c x y)::k) cs s:=
 To I (λh=>K (uc h)) (λh=>O (vu h))
theorem JL.loop{c:Code}(K:α->Prop)(O:α->Nat)(U:α->Env)(Y:α->St)(Z:α)(ac:K Z)(ag:L=U Z)(hs:s=Y Z)
  (round:∀a,K a->(∀I,K I->O I<O a->JL J Q b n (U I) ds (.inLoop c::k) cs (Y I))->JL J Q b n (U a) ds (.code c:: .inLoop c::k) cs (Y a)):
  JL J Q b n L ds (.code (.loop c)::k) cs s:=by
 refine Ki ?_;subst ag hs;have key:∀m a,O a=m->K a->JL J Q b n (U a) ds (.code c:: .inLoop c::k) cs (Y a):=by
  intro m
  induction m using Nat.strongRecOn with
  | _ m ai=>intro a hm aj;exact round a aj λI al am=>CY (ai (O I) (hm▸am) I rfl al)
 exact key _ Z V ac
theorem JL.region{id:Nat}{ops:Ao_}(h:JL J Q b n L ds (.inRegion ops (List.range ops.size)::k) cs s):JL J Q b n L ds (.code (.region id ops false)::k) cs s:=λT I=>Bk V (λw=>by simp[G,stepG,stepG.exec,fr]) (h T I)
abbrev CA:=@JL.region
theorem JL.done{ops:Ao_}(h:JL J Q b n L ds k cs s):JL J Q b n L ds (.inRegion ops []::k) cs s:=λT I=>Bk V (λw=>by simp[G,stepG,stepG.exec,fr]) (h T I)
abbrev A1:=@JL.done
theorem XB{id:Nat}{ops:Ao_}(I:s.q=false)(hm:P.follows .mixedOrders=true)(h:∀t,JL J Q b n L ds (.inRegion ops (Region.linearise .any ops t)::k) cs s):JL J Q b n L ds (.code (.region id ops true)::k) cs s:=λT K=>by
 refine J.step ⟨rfl,λw f=>⟨_,s,{w with drawn:=w.drawn+1},#[],?_,h (w.tape w.drawn (.order b.fn id)) T K,⟨f.e,f.h,f.d⟩,⟨jK _,λ_ _ _=>rfl,λ_ h=>.inl h,λ_ _ h=>h,λ_ h=>.inl h,rfl,rfl,rfl⟩,AM⟩,λe=>by subst e;cases I⟩
 simp[G,stepG,stepG.exec,fr,choose,Sem.run,Question.forced,Question.cut,Region.schedule,hm]
theorem HQ(T:Av_)(ops:Ao_)(i:Nat)(rest:List Nat)(v:Value)(o:Oper)(I:ops[i]?=some o):
  (fr b T ds (Ag ops i rest k)).finish v=fr b (DU T o.dst v) ds (Ah ops rest k):=by
 cases hd:o.dst<;>simp[Frame.finish,fr,I,hd,DU]
theorem stepG_op{main:Bool}{ops:Ao_}{i:Nat}{rest:List Nat}{o:Oper}(I:ops[i]?=some o)(hw:Region.wanted o (yielded ops T)=true):
  stepG P main (G (fr b T ds (Ag ops i rest k)) cs) w=
   match b.roundOf,o.op with
   | some l,.defer c=>stepG.apply P true (fr b T ds (Ag ops i rest k)) cs none (do Instr.deferInRound l (← resolve (BZ T) c o.type);pure .skip) w
   | _,_=>stepG.apply P true (fr b T ds (Ag ops i rest k)) cs none (execOp (BZ T) o) w:=by
 have he:=W3 (b:=b) (ds:=ds) T (Ag ops i rest k);simp only[fr] at he;simp only[G,stepG,stepG.exec,fr,I,uf,Option.getD_some,hw,tS,stepG.oper,Frame.oper?,he]
 rfl
theorem Hv(T:Av_)(todo:Li_):(fr b T ds todo).fn=b.fn:=rfl
theorem JH(T:Av_)(todo:Li_):(fr b T ds todo).todo=todo:=rfl
def upon(J:Judge P)(Q:Gs_)(b:Frame)(T:Av_)(ds:Ld_)(ops:Ao_)(i:Nat)(rest:List Nat)(k:Li_)(cs:Lf_)(dst:Option Tmp):Next->St->Prop
 | .value v,s=>J.ok Q (G (fr b (DU T dst v) ds (Ah ops rest k)) cs) s
 | .skip,s=>J.ok Q (G (fr b (DU T dst undef) ds (Ah ops rest k)) cs) s
 | .defer d,s=>J.ok Q (G (fr b (DU T dst undef) (d::ds) (Ah ops rest k)) cs) s
 | .enter f args,s=>J.ok Q (G (Frame.enter P f args .normal) (fr b T ds (Ag ops i rest k)::cs)) s
 | .round l f tmps assign body,s=>J.ok Q (G (Frame.round l f tmps assign body .normal) (fr b T ds (Ag ops i rest k)::cs)) s
 | _,_=>False
def NO(J:Judge P)(Q:Gs_)(b:Frame)(T:Av_)(ds:Ld_)(ops:Ao_)(i:Nat)(rest:List Nat)(k:Li_)(cs:Lf_):Halt->St->Prop
 | .panic v,s=>J.ok Q (G ((fr b T ds (Ag ops i rest k)).raise [{v,recovered:=false}]) cs) s
 | _,_=>False
theorem TF{s:St}{fn:FuncId}(h:∀e∈es,Ev s w w' e):∀e∈seen P fn es,Ev s w w' e:=λe he=>h e (mem_seen he)
theorem Judge.oper{ops:Ao_}{i:Nat}{rest:List Nat}{o:Oper}(ag:ops[i]?=some o)(hw:Region.wanted o (yielded ops T)=true)(aq:b.kind≠ .early)
  (hd:b.roundOf=none∨∀c,o.op≠ .defer c)
  (h:lp P (execOp (BZ T) o) s (upon J Q b T ds ops i rest k cs o.dst) (NO J Q b T ds ops i rest k cs)):
  J.ok Q (G (fr b T ds (Ag ops i rest k)) cs) s:=by
 have O:((fr b T ds (Ag ops i rest k)).kind==CallKind.early)=false:=by simpa [fr] using aq
 have am:∀w,stepG P J.main (G (fr b T ds (Ag ops i rest k)) cs) w=stepG.apply P true (fr b T ds (Ag ops i rest k)) cs none (execOp (BZ T) o) w:=by
  intro w;rw[stepG_op ag hw];split;rename_i l c ap e2;rcases hd with hd | hd;rw[hd] at ap;cases ap;exact absurd e2 (hd c);rfl
 refine J.step ⟨V,λw f=>?_,λe=>?_⟩
 rotate_left
 .subst e;simp only[am];have ai:=λv=>HQ (b:=b) (ds:=ds) (k:=k) T ops i rest v o ag;let⟨es,he,U,h⟩:=WZ _ h;have ac:seen P b.fn es=#[]:=Vm U;rcases h with⟨aj,I,K⟩ | ⟨x,I,K⟩
  .cases aj with
   | value v=>exact⟨_,λw=>by simp[stepG.apply,K,O,GStep.after,G,ai,Hv,he,ac],I⟩
   | skip=>exact⟨_,λw=>by simp[stepG.apply,K,O,GStep.after,G,ai,Hv,he,ac],I⟩
   | enter g args=>exact⟨_,λw=>by simp[stepG.apply,K,O,GStep.after,G,Hv,JH,he,ac],I⟩
   | round l g tm as av=>exact⟨_,λw=>by simp[stepG.apply,K,O,GStep.after,G,Hv,JH,he,ac],I⟩
   | defer d=>
    have al:=HQ (b:=b) (ds:=d::ds) (k:=k) T ops i rest undef o ag;exact⟨_,λw=>by rw[← al];simp[stepG.apply,K,O,GStep.after,G,Hv,JH,he,ac];rfl,I⟩
   | _=>exact I.elim
  .cases x with
   | panic v=>exact⟨_,λw=>by simp[stepG.apply,K,O,GStep.after,G,Hv,JH,he,ac],I⟩
   | _=>exact I.elim
 let⟨s',Y,Z,aw,I⟩:=P4 _ h f;rw[am];have U:=TF (P:=P) (fn:=b.fn) aw;have ai:=λv=>HQ (b:=b) (ds:=ds) (k:=k) T ops i rest v o ag;cases K:(execOp (BZ T) o).run P w with
 | ok aj w'=>
  rw[K] at Y Z I U;simp only[MI] at Y Z U;cases aj with
  | value v=>exact⟨_,s',w',seen P b.fn ((execOp (BZ T) o).events P w #[])++ #[],by simp[stepG.apply,K,O,GStep.after,G,ai,Hv],I,Y,Z,by simpa using U⟩
  | skip=>exact⟨_,s',w',seen P b.fn ((execOp (BZ T) o).events P w #[])++ #[],by simp[stepG.apply,K,O,GStep.after,G,ai,Hv],I,Y,Z,by simpa using U⟩
  | enter g args=>exact⟨_,s',w',seen P b.fn ((execOp (BZ T) o).events P w #[])++ #[],by simp[stepG.apply,K,O,GStep.after,G,Hv,JH],I,Y,Z,by simpa using U⟩
  | round l g tm as av=>exact⟨_,s',w',seen P b.fn ((execOp (BZ T) o).events P w #[])++ #[],by simp[stepG.apply,K,O,GStep.after,G,Hv,JH],I,Y,Z,by simpa using U⟩
  | defer d=>
   have al:=HQ (b:=b) (ds:=d::ds) (k:=k) T ops i rest undef o ag;exact⟨_,s',w',seen P b.fn ((execOp (BZ T) o).events P w #[])++ #[],by
    rw[← al];simp[stepG.apply,K,O,GStep.after,G,Hv,JH];rfl,I,Y,Z,by simpa using U⟩
  | _=>exact I.elim
 | halt x w'=>
  rw[K] at Y Z I U;simp only[MI] at Y Z U;cases x with
  | panic v=>exact⟨_,s',w',seen P b.fn ((execOp (BZ T) o).events P w #[])++ #[],by simp[stepG.apply,K,O,GStep.after,G,Hv,JH],I,Y,Z,by simpa using U⟩
  | _=>exact I.elim
abbrev DI:=@Judge.oper
theorem Judge.unwanted{ops:Ao_}{i:Nat}{rest:List Nat}{o:Oper}(I:ops[i]?=some o)(hw:Region.wanted o (yielded ops T)=false)
  (h:J.ok Q (G (fr b (DU T o.dst undef) ds (Ah ops rest k)) cs) s):J.ok Q (G (fr b T ds (Ag ops i rest k)) cs) s:=by
 refine Bk V (λw=>?_) h;have K:=HQ (b:=b) (ds:=ds) (k:=k) T ops i rest undef o I;rw[← K];simp[G,stepG,stepG.exec,fr,I,hw]
abbrev E9:=@Judge.unwanted
end
def Yl(P:Program)(o:Oper)(ρ:Operand->Value)(s:St)(v:Value):Prop:=lp P (execOp ρ o) s (λI s'=>I=.value v/\s'=s) (λ_ _=>False)
def FV(L:Env)(ρ:Operand->Value):Prop:=∀x v,ev L x=some v->ρ x=v
def A9(L:Env)(ops:Ao_)(o:Oper):Option Bool:=
 match o.guard with
 | none=>some true
 | some (j,I)=>match(ops[j]?).bind (·.dst) with
  | some d=>match look L d with
   | some (.bool b)=>some (b==I)
   | some (.tuple _)=>some false
   | _=>none
  | none=>none
section
variable {b:Frame}{n:Nat}
theorem Has.Hu(h:Has n L T):FV L (BZ T):=λ_ _ e=>h.ev e
theorem getD_some{d:Nat}{c:Bool}(h:T.getD d undef=.bool c):T[d]?=some (.bool c):=by
 rw[no] at h;cases I:T[d]? with
 | none=>rw[I] at h;simp[undef] at h
 | some v=>rw[I] at h;simp at h;rw[h]
theorem CI{ops:Ao_}{o:Oper}{c:Bool}(h:Has n L T)(hw:A9 L ops o=some c):Region.wanted o (yielded ops T)=c:=by
 unfold A9 at hw;unfold Region.wanted;cases hg:o.guard with
 | none=>rw[hg] at hw;simpa using hw
 | some p=>
  obtain⟨j,O⟩:=p;rw[hg] at hw;simp only at hw ⊢;cases hd:(ops[j]?).bind (·.dst) with
  | none=>rw[hd] at hw;simp at hw
  | some d=>
   rw[hd] at hw;simp only at hw;cases I:look L d with
   | none=>rw[I] at hw;simp at hw
   | some v=>
    rw[I] at hw;cases v with
    | bool x=>
     simp only[tT] at hw;have:=getD_some (h.at_ d _ I);simp only[yielded,hd,Option.bind_some,this];simp[← hw]
    | tuple c=>
     simp only[tT] at hw;have hg:=h.at_ d _ I;simp only[yielded,hd,Option.bind_some];cases K:T[d]? with
     | none=>simp[← hw]
     | some u=>
      have:u=.tuple c:=by rw[no,K] at hg;exact hg
      subst this;simp[← hw]
    | _=>simp at hw
def EP:Op->Bool | .defer _=>true | _=>false
def Cd(b:Frame)(n:Nat)(o:Oper):Bool:=(b.kind != .early)&&(BC n o.dst&& !EP o.op)
theorem Yl.out{P:Program}{o:Oper}{ρ:Operand->Value}{s:St}{v:Value}(h:Yl P o ρ s v):Pal.lp P (execOp ρ o) s (λI s'=>I=.value v/\s'=s) (λ_ _=>False):=by unfold Yl at h;exact h
theorem Bv{ops:Ao_}{i:Nat}{rest:List Nat}{o:Oper}{v:Value}(O:ops[i]?=some o)(hw:A9 L ops o=some true)(I:Cd b n o=true)
  (h:∀ρ,FV L ρ->Yl P o ρ s v) (U:JL J Q b n (AG L o.dst v) ds (Ah ops rest k) cs s):
  JL J Q b n L ds (Ag ops i rest k) cs s:=λT K=>by
 simp only[Cd,f6] at I
 obtain⟨I,Y,hd⟩:=I
 refine DI O (CI K hw) (by simpa using I) (.inr λc Z=>by rw[Z] at hd;simp[EP] at hd) (Fy _ (h _ K.Hu).out ?_ ?_)
 .rintro ag s' ⟨rfl,rfl⟩
  exact U _ (K.put Y v)
 .intro _ _ ac;exact ac.elim
theorem JR{ops:Ao_}{i:Nat}{rest:List Nat}{o:Oper}(K:ops[i]?=some o)(hw:A9 L ops o=some false)(O:BC n o.dst=true)
  (U:JL J Q b n (AG L o.dst undef) ds (Ah ops rest k) cs s):
  JL J Q b n L ds (Ag ops i rest k) cs s:=λ_ I=>
 E9 K (CI I hw) (U _ (I.put O undef))
theorem JL.op{ops:Ao_}{i:Nat}{rest:List Nat}{o:Oper}(Z:ops[i]?=some o)(hw:A9 L ops o=some true)(I:Cd b n o=true)
  (h:∀ρ,FV L ρ->lp P (execOp ρ o) s (λO s'=>match O with
   | .value v=>JL J Q b n (AG L o.dst v) ds (Ah ops rest k) cs s'
   | .skip=>JL J Q b n (AG L o.dst undef) ds (Ah ops rest k) cs s'
   | _=>False) (λ_ _=>False)):
  JL J Q b n L ds (Ag ops i rest k) cs s:=λT K=>by
 simp only[Cd,f6] at I
 obtain⟨I,Y,hd⟩:=I
 refine DI Z (CI K hw) (by simpa using I) (.inr λc ac=>by rw[ac] at hd;simp[EP] at hd) (Fy _ (h _ K.Hu) ?_ ?_)
 .intro O s' U
  cases O with
  | value v=>exact U _ (K.put Y v)
  | skip=>exact U _ (K.put Y undef)
  | _=>exact U.elim
 .intro _ _ ag;exact ag.elim
abbrev EH:=@JL.op
end
variable {ρ:Operand->Value}{y z:Operand}{d:Option Tmp}{t u ty:TypeId}{p:String}{af:Ae_}{g:On_}{kd kd':IntKind}{m':Int}
variable{ats:Array TypeId}
section
variable {x:Operand}{v:Value}{m:Int}
theorem Yl.move(I:ρ x=v):Yl P ⟨d,.move x,ty,p,af,g⟩ ρ s v:=by simp[Yl,execOp,lp,pure,I]
abbrev DW:=@Yl.move
theorem Yl.assign(I:ρ x=v):Yl P ⟨d,.assign x,ty,p,af,g⟩ ρ s v:=by simp[Yl,execOp,lp,pure,I]
abbrev DE:=@Yl.assign
theorem On(I:ρ z=.bool true)(K:ρ x=v):Yl P ⟨d,.pick z x y,ty,p,af,g⟩ ρ s v:=by simp[Yl,execOp,lp,pure,bind,Sem.bind,asBool,I,K]
theorem cF(I:ρ z=.bool false)(K:ρ y=v):Yl P ⟨d,.pick z x y,ty,p,af,g⟩ ρ s v:=by simp[Yl,execOp,lp,pure,bind,Sem.bind,asBool,I,K]
theorem Yl.lss(I:ρ x=.int kd m)(K:ρ y=.int kd m'):Yl P ⟨d,.binOp .lss t x y u,ty,p,af,g⟩ ρ s (.bool (decide (m<m'))):=by
 simp[Yl,execOp,lp,pure,bind,Sem.bind,I,K,eqGuard,Go.binOp,Op.intCmp]
abbrev Ee:=@Yl.lss
theorem Yl.leq(I:ρ x=.int kd m)(K:ρ y=.int kd m'):Yl P ⟨d,.binOp .leq t x y u,ty,p,af,g⟩ ρ s (.bool (decide (m<=m'))):=by
 simp[Yl,execOp,lp,pure,bind,Sem.bind,I,K,eqGuard,Go.binOp,Op.intCmp]
theorem Yl.gtr(I:ρ x=.int kd m)(K:ρ y=.int kd m'):Yl P ⟨d,.binOp .gtr t x y u,ty,p,af,g⟩ ρ s (.bool (decide (m'<m))):=by
 simp[Yl,execOp,lp,pure,bind,Sem.bind,I,K,eqGuard,Go.binOp,Op.intCmp]
abbrev Hq:=@Yl.gtr
theorem Yl.geq(I:ρ x=.int kd m)(K:ρ y=.int kd m'):Yl P ⟨d,.binOp .geq t x y u,ty,p,af,g⟩ ρ s (.bool (decide (m'<=m))):=by
 simp[Yl,execOp,lp,pure,bind,Sem.bind,I,K,eqGuard,Go.binOp,Op.intCmp]
theorem Yl.eql(I:ρ x=.int kd m)(K:ρ y=.int kd m'):Yl P ⟨d,.binOp .eql t x y u,ty,p,af,g⟩ ρ s (.bool (decide (m=m'))):=by
 simp[Yl,execOp,lp,pure,bind,Sem.bind,I,K,eqGuard,Go.binOp,Op.intCmp];rfl
abbrev DN:=@Yl.eql
theorem Yl.neq(I:ρ x=.int kd m)(K:ρ y=.int kd m'):Yl P ⟨d,.binOp .neq t x y u,ty,p,af,g⟩ ρ s (.bool (!decide (m=m'))):=by
 simp[Yl,execOp,lp,pure,bind,Sem.bind,I,K,eqGuard,Go.binOp,Op.intCmp];rfl
abbrev Dj:=@Yl.neq
theorem Yl.add(I:ρ x=.int kd m)(K:ρ y=.int kd m'):Yl P ⟨d,.binOp .add t x y u,ty,p,af,g⟩ ρ s (.int kd (kd.wrap (m+m'))):=by
 simp[Yl,execOp,lp,pure,bind,Sem.bind,I,K,eqGuard,Go.binOp,Op.intArith]
theorem Yl.sub(I:ρ x=.int kd m)(K:ρ y=.int kd m'):Yl P ⟨d,.binOp .sub t x y u,ty,p,af,g⟩ ρ s (.int kd (kd.wrap (m - m'))):=by
 simp[Yl,execOp,lp,pure,bind,Sem.bind,I,K,eqGuard,Go.binOp,Op.intArith]
abbrev D3:=@Yl.sub
theorem Yl.mul(I:ρ x=.int kd m)(K:ρ y=.int kd m'):Yl P ⟨d,.binOp .mul t x y u,ty,p,af,g⟩ ρ s (.int kd (kd.wrap (m*m'))):=by
 simp[Yl,execOp,lp,pure,bind,Sem.bind,I,K,eqGuard,Go.binOp,Op.intArith]
theorem Lt{a:Int}(h: -9223372036854775808<=a/\a<=9223372036854775807):IntKind.i64.wrap a=a:=by
 simp only[IntKind.wrap,IntKind.bits,IntKind.signed];simp;split<;>omega
theorem fA(I:ρ x=.int .i64 m)(K:ρ y=.int .i64 m')(hb: -9223372036854775808<=m+m'/\m+m'<=9223372036854775807):Yl P ⟨d,.binOp .add t x y u,ty,p,af,g⟩ ρ s (.int .i64 (m+m')):=by
 have:=Yl.add (P:=P) (s:=s) (d:=d) (t:=t) (u:=u) (ty:=ty) (p:=p) (af:=af) (g:=g) I K;rwa[Lt hb] at this
theorem fL(I:ρ x=.int .i64 m)(K:ρ y=.int .i64 m')(hb: -9223372036854775808<=m - m'/\m - m'<=9223372036854775807):Yl P ⟨d,.binOp .sub t x y u,ty,p,af,g⟩ ρ s (.int .i64 (m - m')):=by
 have:=D3 (P:=P) (s:=s) (d:=d) (t:=t) (u:=u) (ty:=ty) (p:=p) (af:=af) (g:=g) I K;rwa[Lt hb] at this
theorem gd(I:ρ x=.int .i64 m)(K:ρ y=.int .i64 m')(hb: -9223372036854775808<=m*m'/\m*m'<=9223372036854775807):Yl P ⟨d,.binOp .mul t x y u,ty,p,af,g⟩ ρ s (.int .i64 (m*m')):=by
 have:=Yl.mul (P:=P) (s:=s) (d:=d) (t:=t) (u:=u) (ty:=ty) (p:=p) (af:=af) (g:=g) I K;rwa[Lt hb] at this
theorem Yl.rem(I:ρ x=.int kd m)(K:ρ y=.int kd m')(O:m'≠0):Yl P ⟨d,.binOp .rem t x y u,ty,p,af,g⟩ ρ s (.int kd (m.tmod m')):=by
 simp[Yl,execOp,lp,pure,bind,Sem.bind,I,K,eqGuard,Go.binOp,Op.intDiv,O]
theorem Yl.quo(I:ρ x=.int kd m)(K:ρ y=.int kd m')(O:m'≠0):Yl P ⟨d,.binOp .quo t x y u,ty,p,af,g⟩ ρ s (.int kd (kd.wrap (m.tdiv m'))):=by
 simp[Yl,execOp,lp,pure,bind,Sem.bind,I,K,eqGuard,Go.binOp,Op.intDiv,O]
theorem Yl.and(I:ρ x=.int kd m)(K:ρ y=.int kd m'):Yl P ⟨d,.binOp .and t x y u,ty,p,af,g⟩ ρ s (.int kd (kd.wrap (BitVec.ofInt kd.bits m&&& BitVec.ofInt kd.bits m').toNat)):=by
 simp[Yl,execOp,lp,pure,bind,Sem.bind,I,K,eqGuard,Go.binOp,Op.intBits]
abbrev Dt:=@Yl.and
theorem Yl.or(I:ρ x=.int kd m)(K:ρ y=.int kd m'):Yl P ⟨d,.binOp .or t x y u,ty,p,af,g⟩ ρ s (.int kd (kd.wrap (BitVec.ofInt kd.bits m|||BitVec.ofInt kd.bits m').toNat)):=by
 simp[Yl,execOp,lp,pure,bind,Sem.bind,I,K,eqGuard,Go.binOp,Op.intBits]
theorem Yl.xor(I:ρ x=.int kd m)(K:ρ y=.int kd m'):Yl P ⟨d,.binOp .xor t x y u,ty,p,af,g⟩ ρ s (.int kd (kd.wrap (BitVec.ofInt kd.bits m ^^^ BitVec.ofInt kd.bits m').toNat)):=by
 simp[Yl,execOp,lp,pure,bind,Sem.bind,I,K,eqGuard,Go.binOp,Op.intBits]
theorem Yl.shl(I:ρ x=.int kd m)(K:ρ y=.int kd' m')(O:0<=m'):Yl P ⟨d,.binOp .shl t x y u,ty,p,af,g⟩ ρ s (.int kd (kd.wrap (m*2^(min m'.toNat kd.bits)))):=by
 have:¬m'<0:=by omega
 simp[Yl,execOp,lp,pure,bind,Sem.bind,I,K,eqGuard,Go.binOp,Op.shift,this]
abbrev Ho:=@Yl.shl
theorem Yl.shr(I:ρ x=.int kd m)(K:ρ y=.int kd' m')(O:0<=m'):Yl P ⟨d,.binOp .shr t x y u,ty,p,af,g⟩ ρ s (.int kd (m.fdiv (2^(min m'.toNat kd.bits)))):=by
 have:¬m'<0:=by omega
 simp[Yl,execOp,lp,pure,bind,Sem.bind,I,K,eqGuard,Go.binOp,Op.shift,this]
abbrev E7:=@Yl.shr
theorem Yl.not{c:Bool}(I:ρ x=.bool c):Yl P ⟨d,.unOp .not t x,ty,p,af,g⟩ ρ s (.bool (!c)):=by
 simp[Yl,execOp,lp,pure,bind,Sem.bind,I,Op.unary]
abbrev CN:=@Yl.not
theorem gi(I:ρ x=.int .i64 m)(hb: -9223372036854775808<= -m/\ -m<=9223372036854775807):Yl P ⟨d,.unOp .neg t x,ty,p,af,g⟩ ρ s (.int .i64 (-m)):=by
 simp[Yl,execOp,lp,pure,bind,Sem.bind,I,Op.unary,Op.intArith,Lt hb]
theorem Gy(ht:P.underlying t=some (.int kd'))(hu:P.underlying u=some (.int kd))(I:ρ x=.int kd' m):Yl P ⟨d,.convert t u x,ty,p,af,g⟩ ρ s (.int kd (kd.wrap m)):=by
 simp[Yl,execOp,lp,pure,bind,Sem.bind,I,Go.convert,underlying,program,ht,hu,Conv.intToInt]
theorem Yl.extract{vs:Av_}{i:Nat}(I:ρ x=.tuple vs)(hi:vs[i]?=some v):Yl P ⟨d,.extract x i,ty,p,af,g⟩ ρ s v:=by
 simp[Yl,execOp,lp,pure,bind,Sem.bind,I,Instr.extract,hi]
abbrev D7:=@Yl.extract
theorem Yl.nilCheck{a:Addr}(I:ρ x=.pointer (some a)):Yl P ⟨d,.nilCheck x,ty,p,af,g⟩ ρ s (.pointer (some a)):=by
 simp[Yl,execOp,lp,pure,I]
theorem Yl.len{a:Option Addr}{e:TypeId}{c:Nat}(I:ats[0]?=some t)(ht:P.underlying t=some (.slice e))(K:ρ x=.slice a l c):
  Yl P ⟨d,.call ⟨.builtin .len,#[x],ats⟩,ty,p,af,g⟩ ρ s (.int .i64 l):=by
 simp[Yl,execOp,lp,pure,bind,Sem.bind,K,resolve,invoke,builtin,Builtin.len_,I,underlying,program,ht,goInt]
abbrev Fo:=@Yl.len
theorem SF{dsc:TypeDesc}(ht:P.underlying t=some dsc)(I:∀ms,dsc≠ .interface ms)(K:ρ x=v):Yl P ⟨d,.makeInterface t x,ty,p,af,g⟩ ρ s (.iface t v):=by
 have:lp P (Instr.makeInterface t v) s (λr s'=>r=.iface t v/\s'=s) (λ_ _=>False):=by
  unfold Instr.makeInterface;simp only[lp,bind,Sem.bind,underlying,program,ht];cases dsc<;>first | exact⟨rfl,rfl⟩ | exact absurd rfl (I _)
 simp only[Yl,execOp,K];exact AH _ _ (Fy _ this (λr s' ⟨O,U⟩=>⟨by rw[O],U⟩) (λ_ _ h=>h))
theorem Nf{fn:Fn}{a c:Array Operand}{va I:Av_}(K:a.map ρ=va)(O:c.map ρ=I):Yl P ⟨d,.makeFunc fn a c,ty,p,af,g⟩ ρ s (.func fn va I):=by
 simp[Yl,execOp,lp,pure,bind,Sem.bind,Instr.makeFunc,K,O]
end
attribute [irreducible] Yl
def Le(E E':LH):Prop:=∀b o,E b=some o->E' b=some o
theorem Le.refl(E:LH):Le E E:=λ_ _ h=>h
abbrev BQ:=@Le.refl
theorem Le.trans{E E' E0:LH}(h:Le E E')(k:Le E' E0):Le E E0:=λb o x=>k b o (h b o x)
theorem AL{E:LH}:Le E E:=BQ E
theorem Le.Ae{a b c:LH}(h:Le a b)(k:Le b c):Le a c:=h.trans k
def Bu:List (Nat×Obj)->LH->LH
 | [],H=>H
 | (b,o)::B,H=>λx=>if x=b then some o else Bu B H x
def mk(E H:LH)(B:List (Nat×Obj)):St:=⟨E,Bu B H,false⟩
def Nd(E H:LH):List (Nat×Obj)->Prop
 | []=>True
 | (b,_)::B=>E b=none/\H b=none/\(∀p∈B,p.1≠b)/\Nd E H B
theorem VB{H:LH}{b:Nat}:∀{B:List (Nat×Obj)},H b=none->(∀p∈B,p.1≠b)->Bu B H b=none
 | [],h,_=>h
 | (c,o)::B,h,hb=>by
  have I:b≠c:=λe=>hb (c,o) AM e.symm
  simp only[Bu,d0 I]
  exact VB h λp K=>hb p (kW _ K)
theorem IW{H:LH}{b:Nat}:∀{B:List (Nat×Obj)},Bu B H b=none->H b=none/\∀p∈B,p.1≠b
 | [],h=>⟨h,AM⟩
 | (c,o)::B,h=>by
  simp only[Bu] at h
  split at h;cases h;rename_i K;refine let⟨O,U⟩:=IW h;⟨O,λp I=>?_⟩;rcases ja.1 I with rfl | I;exact λe=>K e.symm;exact U p I
theorem Ve{H:LH}{x:Nat}{o:Obj}{r:Nat}:∀{B:List (Nat×Obj)},(∀p∈B,p.1≠r)->Bu (B++ [(r,o)]) H x=if x=r then some o else Bu B H x
 | [],_=>rfl
 | (c,u)::B,h=>by
  simp only[tH,Bu]
  by_cases e:x=c
  .subst e
   have:x≠r:=λe=>h (x,u) AM e;simp[this]
  .simp only [d0 e];exact Ve λp I=>h p (kW _ I)
theorem Nd.append{E H:LH}{r:Nat}{o:Obj}(K:E r=none)(O:H r=none):∀{B:List (Nat×Obj)},(∀p∈B,p.1≠r)->Nd E H B->Nd E H (B++ [(r,o)])
 | [],_,_=>⟨K,O,AM,trivial⟩
 | (c,u)::B,h,U=>by
  obtain⟨Y,Z,ac,ag⟩:=U
  refine⟨Y,Z,λp I=>?_,Nd.append K O (λp I=>h p (kW _ I)) ag⟩
  rcases sO.1 I with I | I;exact ac p I;simp at I;subst I;exact λe=>h (c,u) AM e.symm
theorem KU{E H:LH}{b:Nat}{o:Obj}:∀{B:List (Nat×Obj)}{i:Nat},Nd E H B->B[i]?=some (b,o)->Bu B H b=some o
 | [],_,_,h=>by simp at h
 | (c,u)::B,0,_,h=>by simp at h;obtain⟨rfl,rfl⟩:=h;simp[Bu]
 | (c,u)::B,i+1,I,h=>by
  simp at h
  have K:b≠c:=I.2.2.1 (b,o) (sU h)
  simp only[Bu,d0 K]
  exact KU I.2.2.2 h
theorem Wm{E H:LH}{b:Nat}{o o':Obj}:∀{B:List (Nat×Obj)}{i:Nat},Nd E H B->B[i]?=some (b,o)->Bu (B.set i (b,o')) H=λx=>if x=b then some o' else Bu B H x
 | [],_,_,h=>by simp at h
 | (c,u)::B,0,_,h=>by
  simp at h;obtain⟨rfl,rfl⟩:=h
  funext x
  simp only[uZ,Bu]
  split<;>rfl
 | (c,u)::B,i+1,I,h=>by
  simp at h
  have K:b≠c:=I.2.2.1 (b,o) (sU h)
  funext x
  simp only[vQ,Bu]
  rw[Wm I.2.2.2 h]
  by_cases e:x=c;subst e;simp[ti K];simp[e]
variable{o':Obj}
theorem Nd.set{E H:LH}{b:Nat}:∀{B:List (Nat×Obj)}{i:Nat},Nd E H B->B[i]?=some (b,o)->Nd E H (B.set i (b,o'))
 | [],_,_,h=>by simp at h
 | (c,u)::B,0,I,h=>by simp at h;obtain⟨rfl,rfl⟩:=h;exact I
 | (c,u)::B,i+1,I,h=>by
  simp at h
  refine⟨I.1,I.2.1,λp K=>?_,I.2.2.2.set h⟩
  have hm:=ve K
  rcases hm with hm | rfl;exact I.2.2.1 p hm;exact I.2.2.1 (b,o) (sU h)
theorem Nd.XM{E H:LH}{b:Nat}{o:Obj}:∀{B:List (Nat×Obj)}{i:Nat},Nd E H B->B[i]?=some (b,o)->E b=none
 | [],_,_,h=>by simp at h
 | (c,u)::B,0,I,h=>by simp at h;obtain⟨rfl,rfl⟩:=h;exact I.1
 | (c,u)::B,i+1,I,h=>by simp at h;exact Nd.XM I.2.2.2 h
theorem SH{E H:LH}{B:List (Nat×Obj)}{i b:Nat}(I:Nd E H B)(h:B[i]?=some (b,o)):(mk E H B).get b=some o:=by
 unfold St.get mk;simp only[I.XM h,KU I h]
theorem Z7{E H:LH}{B:List (Nat×Obj)}{b:Nat}(h:E b=some o):(mk E H B).get b=some o:=by
 unfold St.get mk;simp only[h]
variable{off:Nat}
theorem WK{E H:LH}{B:List (Nat×Obj)}{i b:Nat}{c:Av_}{e:TypeId}{f:Nat×Nat}{v:Value}(I:Nd E H B)(h:B[i]?=some (b,.cells c e f))(K:c[off]?=some v):(mk E H B).cell? ⟨b,off,none⟩=some v:=by
 unfold St.cell?;rw[SH I h];exact K
theorem cA{E H:LH}{B:List (Nat×Obj)}{b:Nat}{c:Av_}{e:TypeId}{f:Nat×Nat}{v:Value}(h:E b=some (.cells c e f))(I:c[off]?=some v):(mk E H B).cell? ⟨b,off,none⟩=some v:=by
 unfold St.cell?;rw[Z7 h];exact I
variable {E H:LH}{B B':List (Nat×Obj)}
variable{bk r:Nat}{args:Av_}{X:Halt->St->Prop}{todo:Li_}{fn:Func}{vs:Lv_}
section
variable {b:Frame}{n:Nat}
theorem Mg(K:(mk E H B).E r=none)(O:(mk E H B).H r=none)(o:Obj)(U:Nd E H B):Nd E H (B++ [(r,o)])/\(mk E H B).upd r o=mk E H (B++ [(r,o)]):=by
 refine let⟨Y,I⟩:=IW O;⟨Nd.append K Y I U,?_⟩;unfold St.upd mk;congr 1;funext x;exact(Ve I).symm
theorem kt{i:Nat}(I:Nd E H B)(h:B[i]?=some (bk,o)):(mk E H B).upd bk o'=mk E H (B.set i (bk,o')):=by
 unfold St.upd mk;congr 1;exact(Wm I h).symm
theorem JL.drop(B':List (Nat×Obj))(h:∀p∈B',∃i:Nat,B[i]?=some p)(O:Nd E H B)(k':JL J Q b n L ds k cs (mk E H B')):JL J Q b n L ds k cs (mk E H B):=
 JL.ghost (s':=mk E H B') ⟨λ_ _ h=>h,λx o K=>by
  show Bu B H x=some o
  have key:∀{B':List (Nat×Obj)},(∀p∈B',∃i:Nat,B[i]?=some p)->Bu B' H x=some o->Bu B H x=some o:=by
   intro B'
   induction B' with
   | nil=>
    intro _ K
    have ag:∀p∈B,p.1≠x:=by
     intro p I e
     have:∀{B:List (Nat×Obj)},Nd E H B->p∈B->H p.1=none:=by
      intro B O I
      induction B with
      | nil=>simp at I
      | cons q B U=>
       rcases ja.1 I with rfl | I;exact O.2.1;exact U O.2.2.2 I
     have Z:=this O I
     rw[e] at Z
     have ac:H x=some o:=K
     rw[Z] at ac;cases ac
    have:∀{B:List (Nat×Obj)},(∀p∈B,p.1≠x)->Bu B H x=H x:=by
     intro B Y
     induction B with
     | nil=>rfl
     | cons q B U=>
      have ai:x≠q.1:=λe=>Y q AM e.symm
      obtain⟨c,u⟩:=q
      simp only[Bu,d0 ai]
      exact U λp I=>Y p (kW _ I)
    rw[this ag];exact K
   | cons q B' U=>
    intro Y K
    obtain⟨c,u⟩:=q
    simp only[Bu] at K
    split at K
    .rename_i e;subst e;cases K
     obtain⟨i,hi⟩:=Y (x,o) AM
     exact KU O hi
    .exact U (λp I=>Y p (kW _ I)) K
  exact key h K,λ_ _ h=>.inl h,V⟩ k'
abbrev GE:=@JL.drop
theorem Of{x:Nat}:∀{B:List (Nat×Obj)}{i bk:Nat}{o u:Obj},Nd E H B->B[i]?=some (bk,o)->Bu (B.eraseIdx i) H x=some u->x≠bk/\Bu B H x=some u
 | [],_,_,_,_,_,h,_=>by simp at h
 | (c,v)::B,0,bk,o,u,K,h,I=>by
  simp at h;obtain⟨rfl,rfl⟩:=h
  simp only[wV] at I
  have O:x≠c:=by
   intro e;subst e;rw[VB K.2.1 K.2.2.1] at I;cases I
  exact⟨O,by simp only[Bu,d0 O];exact I⟩
 | (c,v)::B,i+1,bk,o,u,K,h,I=>by
  simp at h;simp only[List.eraseIdx_cons_succ,Bu] at I ⊢;split at I;rename_i e;subst e;rw[d9 rfl];exact⟨λe=>K.2.2.1 (bk,o) (sU h) e.symm,I⟩;rename_i e;rw[d0 e];exact Of K.2.2.2 h I
theorem JL.freeze(i:Nat)(I:Nd E H B)(h:B[i]?=some (bk,o))
  (k':∀E',Le E E'->E' bk=some o->Nd E' H (B.eraseIdx i)->JL J Q b n L ds k cs (mk E' H (B.eraseIdx i))):JL J Q b n L ds k cs (mk E H B):=by
 have aj:=sU h;have al:E bk=none/\H bk=none:=by
  have:∀{B:List (Nat×Obj)},Nd E H B->(bk,o)∈B->E bk=none/\H bk=none:=by
   intro B I K
   induction B with
   | nil=>simp at K
   | cons q B U=>
    rcases ja.1 K with rfl | K;exact⟨I.1,I.2.1⟩;exact U I.2.2.2 K
  exact this I aj
 let E':LH:=λx=>if x=bk then some o else E x
 have ac:E' bk=some o:=by simp[E']
 have hle:Le E E':=λx u O=>by
  have:x≠bk:=λe=>by subst e;rw[al.1] at O;cases O
  simp[E',this,O]
 have am:Nd E' H (B.eraseIdx i):=by
  have:∀{B:List (Nat×Obj)}{i:Nat},Nd E H B->B[i]?=some (bk,o)->Nd E' H (B.eraseIdx i)/\∀p∈B.eraseIdx i,p.1≠bk:=by
   intro B
   induction B with
   | nil=>intro i _ h;simp at h
   | cons q B U=>
    obtain⟨c,v⟩:=q;intro i I h;have up:∀{B:List (Nat×Obj)},Nd E H B->(∀p∈B,p.1≠bk)->Nd E' H B:=by
     intro B I ag
     induction B with
     | nil=>trivial
     | cons q B ap=>exact⟨by simpa [E',ag q AM] using I.1,I.2.1,I.2.2.1,ap I.2.2.2 λp K=>ag p (kW _ K)⟩
    cases i with
    | zero=>
     simp at h;obtain⟨rfl,rfl⟩:=h;exact⟨up I.2.2.2 I.2.2.1,I.2.2.1⟩
    | succ i=>
     simp at h;let⟨Y,Z⟩:=U I.2.2.2 h;have ai:c≠bk:=λe=>I.2.2.1 (bk,o) (sU h) e.symm;refine⟨⟨by simpa [E',ai] using I.1,I.2.1,λp K=>I.2.2.1 p (uy K),Y⟩,λp K=>?_⟩;rcases ja.1 K with rfl | K;exact ai;exact Z p K
  exact(this I h).1
 refine JL.ghost (s':=mk E' H (B.eraseIdx i)) ⟨λx u O=>hle x u O,λx u O=>(Of I h O).2,λx u O=>?_,V⟩ (k' E' hle ac am);by_cases e:x=bk
 .subst e;right;have:u=o:=by have:E' x=some u:=O;rw[ac] at this;exact(f8 this).symm
  subst this;refine⟨KU I h,?_⟩;cases aq:(mk E' H (B.eraseIdx i)).H x with
  | none=>rfl
  | some y=>exact absurd rfl (Of I h aq).1
 .left;have Y:E' x=some u:=O;have Z:E' x=E x:=by simp[E',e]
  show E x=some u;rw[← Z];exact Y
abbrev IT:=@JL.freeze
def Fn(P:Program)(f:FuncId)(args:Av_)(s:St)(R:Value->St->Prop):Prop:=
 ∀(J:Judge P) (Q:Gs_) (c:Frame) (cs:Lf_),(∀v s',R v s'->J.ok Q (G (c.finish v) cs) s')->J.ok Q (G (Frame.enter P f args .normal) (c::cs)) s
def ET(P:Program)(f:FuncId):Bool:=match P.funcs[f]? with | some fn=> !(fn.name== "runtime.NumGoroutine")&&fn.body.isSome | none=>false
def evs(L:Env):List Operand->Option (Lv_)
 | []=>some []
 | x::xs=>match ev L x,evs L xs with | some v,some vs=>some (v::vs) | _,_=>none
theorem HP{L:Env}{ρ:Operand->Value}(h:FV L ρ):∀{xs:List Operand}{vs:Lv_},evs L xs=some vs->xs.map ρ=vs
 | [],vs,e=>by simp[evs] at e;subst e;rfl
 | x::xs,vs,e=>by
  simp only[evs] at e
  split at e
  .rename_i v ws I K
   cases e;rw[tX,h x v I,HP h K]
  .cases e
theorem KP{f:FuncId}{s:St}{Q:Next->St->Prop}(I:ET P f=true)(h:Q (.enter f args) s):lp P (callFunc f args) s Q X:=by
 unfold ET at I;unfold callFunc;simp only[bind,Sem.bind,program,lp];cases K:P.funcs[f]? with
 | none=>rw[K] at I;cases I
 | some fn=>
  rw[K] at I;simp only[f6,vc] at I;have hb:fn.body.isNone=false:=by cases O:fn.body<;>simp_all
  simp only[I.1,hb,s5,tP];exact h
def BY(P:Program)(f:FuncId)(L:Env)(n:Nat)(s:St)(v:Value):Prop:=∃fn,P.funcs[f]?=some fn/\∀T,Has n L T->lp P (results fn T) s (λu s'=>u=v/\s'=s) (λ_ _=>False)
theorem Judge.leave{c:Frame}{s:St}{v:Value}(U:b.kind=.normal)(Y:P.funcs[b.fn]?=some fn)(O:lp P (results fn T) s (λu s'=>u=v/\s'=s) (λ_ _=>False))
  (h:J.ok Q (G (c.finish v) cs) s):J.ok Q (G (FL b T [] todo) (c::cs)) s:=by
 refine J.step ⟨V,λw f=>?_,λe=>?_⟩
 rotate_left
 .subst e;let⟨es,he,ai,O⟩:=WZ _ O;have aj:seen P b.fn es=#[]:=Vm ai;rcases O with⟨u,⟨rfl,_⟩,K⟩ | ⟨x,I,_⟩;exact⟨_,λw=>by simp[G,stepG,unwind,FL,Y,K,doReturn,U,GStep.after,he,aj],h⟩;exact I.elim
 let⟨s',Z,ac,ag,I⟩:=P4 _ O f;cases K:(results fn T).run P w with
 | halt x w'=>rw[K] at I;exact I.elim
 | ok u w'=>
  rw[K] at Z ac ag I;obtain⟨rfl,rfl⟩:=I;exact⟨_,s',w',seen P b.fn ((results fn T).events P w #[])++ #[],by simp[G,stepG,unwind,FL,Y,K,doReturn,U,GStep.after],h,Z,ac,by simp only[vR];exact TF ag⟩
abbrev G5:=@Judge.leave
theorem JL.ret{s:St}{c:Frame}{v:Value}(K:b.kind=.normal)(O:b.roundOf=none)(I:BY P b.fn L n s v)(h:J.ok Q (G (c.finish v) cs) s):JL J Q b n L [] (.code .ret::k) (c::cs) s:=λT U=>by
 obtain⟨fn,Y,I⟩:=I
 refine Bk (g':=G (FL b T [] (.code .ret::k)) (c::cs)) rfl (λw=>by simp[G,stepG,stepG.exec,fr,FL,O]) ?_
 exact G5 K Y (I T U) h
abbrev CT:=@JL.ret
theorem JL.fin{s:St}{c:Frame}{v:Value}(K:b.kind=.normal)(O:b.roundOf=none)(I:BY P b.fn L n s v)(h:J.ok Q (G (c.finish v) cs) s):JL J Q b n L [] [] (c::cs) s:=λT U=>by
 obtain⟨fn,Y,I⟩:=I
 refine Bk (g':=G (FL b T [] []) (c::cs)) rfl (λw=>by simp[G,stepG,stepG.exec,fr,FL,O]) ?_
 exact G5 K Y (I T U) h
abbrev DA:=@JL.fin
theorem BY.one{f:FuncId}{s:St}{t:Tmp}{v:Value}(I:P.funcs[f]?=some fn)(K:fn.results=#[.tmp t])(h:look L t=some v):BY P f L n s v:=
 ⟨fn,I,λT O=>by
  have e:results fn T=Sem.pure v:=by
   have:=O.at_ t v h
   simp only[results,K,uM]
   show Sem.pure (T.getD t undef)=_
   rw[this]
  rw[e];exact⟨rfl,rfl⟩⟩
abbrev Gu:=@BY.one
theorem BY.none{f:FuncId}{s:St}(I:P.funcs[f]?=some fn)(K:fn.results=#[]):BY P f L n s (.tuple #[]):=
 ⟨fn,I,λT O=>by
  have e:results fn T=Sem.pure (.tuple #[]):=by
   simp only[results,K,uM]
   rfl
  rw[e];exact⟨rfl,rfl⟩⟩
abbrev C0:=@BY.none
def HD:Nat->Lv_->Env
 | _,[]=>[]
 | i,v::vs=>(i,v)::HD (i+1) vs
theorem Ln{i t:Nat}{v:Value}(h:look (HD i vs) t=some v):i<=t/\vs[t - i]?=some v:=by
 induction vs generalizing i with
 | nil=>simp[HD,look] at h
 | cons u vs I=>
  simp only[HD,look] at h;split at h;rename_i e;subst e;cases h;simp
  .rename_i O;refine let⟨U,K⟩:=I h;⟨AB,?_⟩;have:t - i=(t - (i+1))+1:=by omega
   rw[this];simpa using K
end
def BA(P:Program)(t:TypeId):Option Nat:=(P.info? t).map (·.size)
def DD(P:Program)(t:TypeId):Option Bool:=match P.underlying t with | some (.struct _)=>some true | some (.array _ _)=>some true | some _=>some false | none=>none
def zeroOf(P:Program)(t:TypeId):Option Value:=(P.info? t).bind (·.zero)
variable{sz:Nat}
theorem F4{Q:Nat->St->Prop}(h:BA P t=some sz)(k:Q sz s):lp P (Go.sizeOf t) s Q X:=by
 unfold BA at h;simp only[Go.sizeOf,typeInfo,bind,Sem.bind,program,lp];cases hi:P.info? t with
 | none=>rw[hi] at h;cases h
 | some i=>rw[hi] at h;simp at h;subst h;exact k
theorem Is{z:Value}{Q:Value->St->Prop}(h:zeroOf P t=some z)(k:Q z s):lp P (zeroValue t) s Q X:=by
 unfold zeroOf at h;simp only[zeroValue,typeInfo,bind,Sem.bind,program,lp];cases hi:P.info? t with
 | none=>rw[hi] at h;cases h
 | some i=>
  rw[hi] at h;simp at h;show lp P (match i.zero with | some v=>pure v | none=>unsupported _) s Q X
  rw[h];exact k
theorem Ow{c:Bool}{Q:Bool->St->Prop}(h:DD P t=some c)(k:Q c s):lp P (isAgg t) s Q X:=by
 unfold DD at h;simp only[isAgg,underlying,bind,Sem.bind,program,lp];cases hu:P.underlying t with
 | none=>rw[hu] at h;cases h
 | some u=>
  rw[hu] at h;cases u<;>simp at h<;>subst h<;>exact k
theorem C4{u:TypeDesc}{Q:TypeDesc->St->Prop}(h:P.underlying t=some u)(k:Q u s):lp P (underlying t) s Q X:=by
 simp only[underlying,bind,Sem.bind,program,lp,h];exact k
theorem Xx{a:Addr}{v:Value}{Q:Value->St->Prop}(h:s.cell? a=some v)(k:Q v s):lp P (load a) s Q X:=⟨V,v,h,k⟩
theorem U7{a:Addr}{Q:Av_->St->Prop}{X:Halt->St->Prop}:∀(vs:Lv_) (i:Nat) (acc:Av_),(∀j v,vs[j]?=some v->s.cell? (a.add (i+j))=some v)->Q (acc++vs.toArray) s->lp P (loadCellsFrom a i vs.length acc) s Q X
 | [],i,acc,_,k=>by simpa [loadCellsFrom,lp,pure] using k
 | v::vs,i,acc,h,k=>by
  simp only[tb,loadCellsFrom]
  refine AH _ _ (Xx (h 0 v V) ?_)
  refine U7 vs (i+1) (acc.push v) (λj u hj=>?_) (by simpa using k)
  have:=h (j+1) u (by simpa using hj)
  rwa[show i+1+j=i+(j+1) from by omega]
theorem Vl{a:Addr}{m:Nat}{Q:Av_->St->Prop}(hm:m=vs.length)(h:∀j v,vs[j]?=some v->s.cell? (a.add j)=some v)(k:Q vs.toArray s):lp P (loadCells a m) s Q X:=by
 subst hm;exact U7 vs 0 #[] (λj v hj=>by simpa using h j v hj) (by simpa using k)
theorem Vn{a:Addr}{v:Value}{Q:Value->St->Prop}(ht:DD P t=some false)(h:s.cell? a=some v)(k:Q v s):lp P (loadVar t a) s Q X:=by
 unfold loadVar;exact AH _ _ (Ow ht (Xx h k))
theorem Vp{a:Addr}{Q:Value->St->Prop}(ht:DD P t=some true)(I:BA P t=some vs.length)(h:∀j v,vs[j]?=some v->s.cell? (a.add j)=some v)(k:Q (.agg vs.toArray) s):lp P (loadVar t a) s Q X:=by
 unfold loadVar;refine AH _ _ (Ow ht ?_);show lp P (do let r ← loadCells a (← Go.sizeOf t);pure (Value.agg r)) s Q X
 exact AH (x:=Go.sizeOf t) _ (F4 I (AH _ _ (Vl V h k)))
variable {e:TypeId}
section
variable {x:Operand}{v:Value}{m:Int}
theorem G7{o:Oper}{sm:Sem Value}(I:execOp ρ o=(do pure (Next.value (← sm))))(h:lp P sm s (λr s'=>r=v/\s'=s) (λ_ _=>False)):Yl P o ρ s v:=by
 unfold Yl;rw[I];exact AH _ _ (Fy _ h (λr s' ⟨K,O⟩=>⟨by rw[K],O⟩) (λ_ _ h=>h))
theorem Yl.load{a:Addr}(ht:DD P t=some false)(I:ρ x=.pointer (some a))(h:s.cell? a=some v):Yl P ⟨d,.load t x,ty,p,af,g⟩ ρ s v:=
 G7 (sm:=Instr.loadAt t (ρ x)) V (by rw[I];exact Vn ht h ⟨rfl,rfl⟩)
abbrev Az:=@Yl.load
theorem I1{a:Addr}(ht:DD P t=some true)(I:BA P t=some vs.length)(K:ρ x=.pointer (some a))(h:∀j v,vs[j]?=some v->s.cell? (a.add j)=some v):Yl P ⟨d,.load t x,ty,p,af,g⟩ ρ s (.agg vs.toArray):=
 G7 (sm:=Instr.loadAt t (ρ x)) V (by rw[K];exact Vp ht I h ⟨rfl,rfl⟩)
theorem Yl.fieldAddr{a:Addr}{K:Array Field}{i:Nat}{I:Field}(ht:P.underlying t=some (.struct K))(hi:K[i]?=some I)(O:BA P I.type=some (sz+1))(U:ρ x=.pointer (some a)):
  Yl P ⟨d,.fieldAddr t x i,ty,p,af,g⟩ ρ s (.pointer (some (a.add I.offset))):=
 G7 (sm:=Instr.fieldAt t (ρ x) i) V (by
  rw[U];unfold Instr.fieldAt
  refine AH _ _ (C4 ht ?_)
  simp only[hi,Instr.sureAddr,bind,Sem.bind,pure]
  refine AH (x:=fieldPlace a I) _ ?_
  unfold fieldPlace
  refine AH _ _ (F4 O ?_)
  simp only[Nat.add_eq_zero_iff,Nat.succ_ne_self,and_false,tP,lp,pure]
  exact⟨trivial,trivial⟩)
abbrev B4:=@Yl.fieldAddr
theorem Om{a:Addr}{c:Nat}(ht:P.underlying t=some (.slice e))(I:BA P e=some sz)(K:ρ x=.slice (some a) l c)(O:ρ y=.int kd m)(h:0<=m/\m<l):
  Yl P ⟨d,.indexAddr t x y,ty,p,af,g⟩ ρ s (.pointer (some (a.add (m.toNat*sz)))):=
 G7 (sm:=Instr.indexAt t (ρ x) (ρ y)) V (by
  rw[K,O];unfold Instr.indexAt
  simp only[asIntOf,bind,Sem.bind,pure]
  refine AH (x:=underlying t) _ (C4 ht ?_)
  simp only[Sem.bind]
  refine AH (x:=underlying t) _ (C4 ht ?_)
  simp only[Sem.bind,h,and_self,tS]
  refine AH (x:=Go.sizeOf e) _ (F4 I ?_)
  exact⟨rfl,rfl⟩)
theorem V0{a:Addr}(ht:P.underlying t=some (.array l e))(I:BA P e=some sz)(K:ρ x=.pointer (some a))(O:ρ y=.int kd m)(h:0<=m/\m<l):
  Yl P ⟨d,.indexAddr t x y,ty,p,af,g⟩ ρ s (.pointer (some (a.add (m.toNat*sz)))):=
 G7 (sm:=Instr.indexAt t (ρ x) (ρ y)) V (by
  rw[K,O];unfold Instr.indexAt
  simp only[asIntOf,bind,Sem.bind,pure]
  refine AH (x:=underlying t) _ (C4 ht ?_)
  simp only[Sem.bind,Instr.sureAddr,pure]
  refine AH (x:=underlying t) _ (C4 ht ?_)
  simp only[Sem.bind,h,and_self,tS]
  refine AH (x:=Go.sizeOf e) _ (F4 I ?_)
  exact⟨rfl,rfl⟩)
end
variable {ops:Ao_}{rest:List Nat}
variable{pl:Nat}
section
variable {b:Frame}{n:Nat}
variable {i:Nat}{x:Operand}{v:Value}
theorem JC{cells:Av_}{Q:Addr->St->Prop}(I:Nd E H B)(k:∀r,Nd E H (B++ [(r,.cells cells e (0,0))])->Q ⟨r,0,none⟩ (mk E H (B++ [(r,.cells cells e (0,0))]))):lp P (newRow e cells) (mk E H B) Q X:=by
 simp only[newRow,newObj,bind,Sem.bind,lp,pure];refine⟨V,λr K O=>?_⟩
 grind [Mg]
theorem JL.alloc{z:Value}(I:ops[i]?=some ⟨d,.alloc e,ty,p,af,g⟩)(hw:A9 L ops ⟨d,.alloc e,ty,p,af,g⟩=some true)(K:Cd b n ⟨d,.alloc e,ty,p,af,g⟩=true)(O:Nd E H B)(U:zeroOf P e=some z)
  (h:∀r,Nd E H (B++ [(r,.cells z.cells e (0,0))])->JL J Q b n (AG L d (.pointer (some ⟨r,0,none⟩))) ds (Ah ops rest k) cs (mk E H (B++ [(r,.cells z.cells e (0,0))]))):
  JL J Q b n L ds (Ag ops i rest k) cs (mk E H B):=
 EH I hw K λρ _=>by
  show lp P (do pure (Next.value (← Instr.alloc e true (.tuple #[])))) _ _ _
  refine AH _ _ ?_
  unfold Instr.alloc
  refine AH _ _ (Is U ?_)
  refine AH _ _ (JC O λr Y=>?_)
  exact h r Y
theorem JL.box(I:ops[i]?=some ⟨d,.box e x,ty,p,af,g⟩)(hw:A9 L ops ⟨d,.box e x,ty,p,af,g⟩=some true)(K:Cd b n ⟨d,.box e x,ty,p,af,g⟩=true)(O:Nd E H B)(U:ev L x=some v)
  (h:∀r,Nd E H (B++ [(r,.cells v.cells e (0,0))])->JL J Q b n (AG L d (.pointer (some ⟨r,0,none⟩))) ds (Ah ops rest k) cs (mk E H (B++ [(r,.cells v.cells e (0,0))]))):
  JL J Q b n L ds (Ag ops i rest k) cs (mk E H B):=
 EH I hw K λρ Y=>by
  show lp P (do pure (Next.value (← Instr.box e (ρ x)))) _ _ _
  rw[Y x v U]
  refine AH _ _ ?_
  unfold Instr.box
  refine AH _ _ (JC O λr Z=>?_)
  exact h r Z
def Be(c:Av_)(off:Nat):Lv_->Av_
 | []=>c
 | v::vs=>Be (c.setIfInBounds off v) (off+1) vs
theorem Oj(c:Av_)(off:Nat)(vs:Lv_):(Be c off vs).size=c.size:=by
 induction vs generalizing c off with
 | nil=>rfl
 | cons v vs I=>simp[Be,I]
theorem PH{bk:Nat}{Q:Unit->St->Prop}{X:Halt->St->Prop}{pl off:Nat}{sp:Option Nat}:∀(vs:Lv_) (j:Nat) (c:Av_) (B:List (Nat×Obj)),(∀v∈vs,Dz v=true)->Nd E H B->B[pl]?=some (bk,.cells c e (0,0))->off+j+vs.length<=c.size->(sp=none∨0<j)->
  (∀B',B'=B.set pl (bk,.cells (Be c (off+j) vs) e (0,0))->Nd E H B'->Q () (mk E H B'))->lp P (storeCells ⟨bk,off,sp⟩ vs j) (mk E H B) Q X
 | [],j,c,B,_,K,I,_,_,k=>by
  simp only[storeCells,lp,pure]
  refine k B ?_ K
  simp only[Be]
  exact(ud λi=>by
   by_cases hi:pl=i
   .subst hi
    let⟨Y,Z⟩:=d7.1 I
    simp[Y,Z]
   .simp [hi])
 | v::vs,j,c,B,O,K,I,hle,U,k=>by
  simp only[storeCells,tb] at*
  have ac:off+j<c.size:=by omega
  have ag:(Addr.add ⟨bk,off,sp⟩ j)=⟨bk,off+j,none⟩:=by
   unfold Addr.add;split
   .rename_i ai;subst ai;rcases U with rfl | U
    .rfl
    .omega
   .rfl
  have aj:(cellAt (.cells c e (0,0)) ⟨bk,off+j,none⟩).isSome=true:=by simp[cellAt,ac]
  refine AH (x:=store (Addr.add ⟨bk,off,sp⟩ j) v) _ ?_;rw[ag];refine⟨V,O v AM,_,KU K I,aj,by simp[frozenAt],?_⟩;simp only[lp];have al:Mx (.cells c e (0,0)) ⟨bk,off+j,none⟩ v=.cells (c.setIfInBounds (off+j) v) e (0,0):=by simp[Mx]
  rw[al,kt K I];have am:(B.set pl (bk,.cells (c.setIfInBounds (off+j) v) e (0,0)))[pl]?=some (bk,.cells (c.setIfInBounds (off+j) v) e (0,0)):=by
   have:pl<B.length:=(d7.1 I).1;simp[this]
  refine PH vs (j+1) _ _ (λu hu=>O u (kW _ hu)) (K.set I) am AP (.inr AB) λap e2 aq=>k ap ?_ aq;rw[e2,uF];simp only[Be]
  rfl
theorem Vs{c:Av_}{Q:Unit->St->Prop}(I:BA P t=some v.cells.size)(K:∀u∈v.cells.toList,Dz u=true)(O:Nd E H B)(U:B[pl]?=some (bk,.cells c e (0,0)))(hle:off+v.cells.size<=c.size)
  (k:Nd E H (B.set pl (bk,.cells (Be c off v.cells.toList) e (0,0)))->Q () (mk E H (B.set pl (bk,.cells (Be c off v.cells.toList) e (0,0))))):lp P (storeVar t ⟨bk,off,none⟩ v) (mk E H B) Q X:=by
 unfold storeVar;refine AH _ _ (F4 I ?_);simp only[ne_eq,not_true_eq_false,tP];refine PH v.cells.toList 0 c B K O U (by simpa using hle) (.inl V) λB' e Y=>?_;subst e;exact k Y
theorem JL.store{c:Av_}(pl:Nat)(K:ops[i]?=some ⟨d,.store t x y,ty,p,af,g⟩)(hw:A9 L ops ⟨d,.store t x y,ty,p,af,g⟩=some true)(O:Cd b n ⟨d,.store t x y,ty,p,af,g⟩=true)(U:Nd E H B)
  (Y:ev L x=some (.pointer (some ⟨bk,off,none⟩))) (Z:ev L y=some v) (ac:BA P t=some v.cells.size) (ag:∀u∈v.cells.toList,Dz u=true) (ai:B[pl]?=some (bk,.cells c e (0,0))) (hle:off+v.cells.size<=c.size)
  (h:Nd E H (B.set pl (bk,.cells (Be c off v.cells.toList) e (0,0)))->JL J Q b n (AG L d undef) ds (Ah ops rest k) cs (mk E H (B.set pl (bk,.cells (Be c off v.cells.toList) e (0,0))))):
  JL J Q b n L ds (Ag ops i rest k) cs (mk E H B):=
 EH K hw O λρ I=>by
  show lp P (do Instr.storeAt t (ρ x) (ρ y);pure Next.skip) _ _ _
  rw[I x _ Y,I y _ Z]
  refine AH _ _ ?_
  unfold Instr.storeAt
  simp only[Instr.sureAddr,bind,Sem.bind,pure]
  exact Vs ac ag U ai hle λaj=>h aj
end
def GC(P:Program)(t:TypeId):Option Nat:=(P.info? t).map (·.bytes)
variable{cx hi lo mx:Nat}{xs ys:Lv_}{ax:Option Addr}
section
variable {b:Frame}{n:Nat}
variable {i:Nat}{x:Operand}{v:Value}
theorem L9{inf:TypeInfo}{Q:TypeInfo->St->Prop}(h:P.info? t=some inf)(k:Q inf s):lp P (typeInfo t) s Q X:=by
 simp only[typeInfo,bind,Sem.bind,program,lp,h];exact k
theorem S2(h:GC P t=some sz):∃inf,P.info? t=some inf/\inf.bytes=sz:=by
 unfold GC at h;cases hi:P.info? t with
 | none=>rw[hi] at h;cases h
 | some i=>rw[hi] at h;simp at h;exact⟨i,rfl,h⟩
theorem KW{z y:Nat}{code:BoundsCode}{f:Nat->Sem β}{I:β->St->Prop}(U:z<=y)(K:lp P (f z) s I X):lp P (Instr.sliceBound (.int .i64 z) y code>>=f) s I X:=by
 refine AH _ _ ?_;unfold Instr.sliceBound;have O:(0:Int)<=(z:Int)/\(z:Int)<=(y:Int):=⟨AB,AB⟩;simp only[asIntOf,bind,Sem.bind,pure];rw[d9 O];simpa [lp] using K
theorem Jw(a:α)(f:α->Sem β):((pure a:Sem α)>>=f)=f a:=rfl
theorem mi{c:Nat}:lp P (Instr.sliceBounds true l c none none none) s (λr s'=>r=(0,l,c)/\s'=s) X:=by
 unfold Instr.sliceBounds;exact⟨V,V⟩
theorem mR{c:Nat}(I:lo<=l):lp P (Instr.sliceBounds true l c (some (.int .i64 lo)) none none) s (λr s'=>r=(lo,l,c)/\s'=s) X:=by
 simp only[Instr.sliceBounds,tS,vv,vS,s5,tP,Jw];exact KW I ⟨V,V⟩
theorem na{c:Nat}(hh:hi<=c):lp P (Instr.sliceBounds true l c none (some (.int .i64 hi)) none) s (λr s'=>r=(0,hi,c)/\s'=s) X:=by
 simp only[Instr.sliceBounds,tS,vv,vS,s5,tP,Jw];exact KW hh ⟨V,V⟩
theorem nh{c:Nat}(hh:hi<=c)(I:lo<=hi):lp P (Instr.sliceBounds true l c (some (.int .i64 lo)) (some (.int .i64 hi)) none) s (λr s'=>r=(lo,hi,c)/\s'=s) X:=by
 have e:Instr.sliceBounds true l c (some (.int .i64 lo)) (some (.int .i64 hi)) none=(Instr.sliceBound (.int .i64 hi) c .sliceAcap>>=λh=>Instr.sliceBound (.int .i64 lo) h .sliceB>>=λl=>pure (l,h,c)):=by
  simp[Instr.sliceBounds]
 rw[e];exact KW hh (KW I ⟨V,V⟩)
theorem mB{c:Nat}(hm:mx<=c)(hh:hi<=mx):lp P (Instr.sliceBounds true l c none (some (.int .i64 hi)) (some (.int .i64 mx))) s (λr s'=>r=(0,hi,mx)/\s'=s) X:=by
 simp only[Instr.sliceBounds,tS,vv,vS,s5,tP,Jw];exact KW hm (KW hh ⟨V,V⟩)
theorem mq{c:Nat}(hm:mx<=c)(hh:hi<=mx)(I:lo<=hi):lp P (Instr.sliceBounds true l c (some (.int .i64 lo)) (some (.int .i64 hi)) (some (.int .i64 mx))) s (λr s'=>r=(lo,hi,mx)/\s'=s) X:=by
 simp only[Instr.sliceBounds,tS,vv,vS,s5,tP,Jw];exact KW hm (KW hh (KW I ⟨V,V⟩))
theorem cR{c:Nat}{U Y Z:Option Value}
  (K:match Z with | some w=>w=.int .i64 mx | none=>mx=c) (I:match Y with | some w=>w=.int .i64 hi | none=>hi=l/\Z=none) (O:match U with | some w=>w=.int .i64 lo | none=>lo=0) (hm:mx<=c) (hh:hi<=mx) (ac:lo<=hi):
  lp P (Instr.sliceBounds true l c U Y Z) s (λr s'=>r=(lo,hi,mx)/\s'=s) X:=by
 cases Z with
 | none=>
  cases Y with
  | none=>
   cases U with
   | none=>obtain rfl:mx=c:=K;obtain rfl:hi=l:=I.1;obtain rfl:lo=0:=O;exact mi
   | some w=>obtain rfl:mx=c:=K;obtain rfl:hi=l:=I.1;obtain rfl:w=.int .i64 lo:=O;exact mR ac
  | some w=>
   cases U with
   | none=>obtain rfl:mx=c:=K;obtain rfl:w=.int .i64 hi:=I;obtain rfl:lo=0:=O;exact na hh
   | some w'=>obtain rfl:mx=c:=K;obtain rfl:w=.int .i64 hi:=I;obtain rfl:w'=.int .i64 lo:=O;exact nh hh ac
 | some w0=>
  cases Y with
  | none=>exact absurd I.2 (λh=>by cases h)
  | some w=>
   cases U with
   | none=>obtain rfl:w0=.int .i64 mx:=K;obtain rfl:w=.int .i64 hi:=I;obtain rfl:lo=0:=O;exact mB hm hh
   | some w'=>obtain rfl:w0=.int .i64 mx:=K;obtain rfl:w=.int .i64 hi:=I;obtain rfl:w'=.int .i64 lo:=O;exact mq hm hh ac
theorem eW{a:Option Addr}{c:Nat}{K O I:Option Value}{Q:Value->St->Prop}(ht:P.underlying t=some (.slice e))(U:BA P e=some sz)
  (Y:match I with | some w=>w=.int .i64 mx | none=>mx=c) (Z:match O with | some w=>w=.int .i64 hi | none=>hi=l/\I=none) (ac:match K with | some w=>w=.int .i64 lo | none=>lo=0) (hm:mx<=c) (hh:hi<=mx) (ag:lo<=hi)
  (k:Q (.slice (if mx=lo then a else a.map (·.add (lo*sz))) (hi - lo) (mx - lo)) s):lp P (Instr.slice t (.slice a l c) K O I) s Q X:=by
 unfold Instr.slice;refine AH _ _ (C4 ht (have hb:=cR (P:=P) (s:=s) (X:=X) Y Z ac hm hh ag;AH _ _ (Fy _ hb ?_ (λ_ _ h=>h))));rintro r s' ⟨rfl,rfl⟩;exact AH _ _ (F4 U k)
theorem Yl.slice{ρ:Operand->Value}{a:Option Addr}{c:Nat}{olo ohi omx:Option Operand}(ht:P.underlying t=some (.slice e))(K:BA P e=some sz)(O:ρ x=.slice a l c)
  (U:match omx with | some w=>ρ w=.int .i64 mx | none=>mx=c) (I:match ohi with | some w=>ρ w=.int .i64 hi | none=>hi=l/\omx=none) (Y:match olo with | some w=>ρ w=.int .i64 lo | none=>lo=0) (hm:mx<=c) (hh:hi<=mx) (Z:lo<=hi):
  Yl P ⟨d,.slice t x olo ohi omx,ty,p,af,g⟩ ρ s (.slice (if mx=lo then a else a.map (·.add (lo*sz))) (hi - lo) (mx - lo)):=
 G7 (sm:=Instr.sliceAt t (ρ x) (olo.map ρ) (ohi.map ρ) (omx.map ρ)) V (by
  rw[O];unfold Instr.sliceAt
  refine AH _ _ (C4 ht ?_)
  refine eW ht K (mx:=mx) (hi:=hi) (lo:=lo) ?_ ?_ ?_ hm hh Z ⟨rfl,rfl⟩;cases omx<;>exact U
  .cases ohi with
   | none=>exact⟨I.1,by rw[I.2];rfl⟩
   | some w=>exact I
  .cases olo<;>exact Y)
abbrev Hn:=@Yl.slice
def Jc(s:St)(v:Value)(sz:Nat)(xs:Lv_):Prop:=
 match v with
 | .slice (some a) l c=>(a.spot=none∨l=0)/\xs.length=l*sz/\l<=c/\∀j w,xs[j]?=some w->s.cell? ⟨a.block,a.off+j,none⟩=some w
 | .slice none l _=>l=0/\xs=[]
 | _=>False
theorem EO{a:Addr}(h:a.spot=none)(j:Nat):a.add j=⟨a.block,a.off+j,none⟩:=by
 unfold Addr.add;obtain⟨b,o,sp⟩:=a;simp only at h;subst h;split;rename_i e;subst e;rfl;rfl
theorem L6{Q:Av_->St->Prop}(O:∃a c,v=.slice a l c)(h:Jc s v sz xs)(k:Q xs.toArray s):lp P (Builtin.firstCells sz l v) s Q X:=by
 obtain⟨a,c,rfl⟩:=O;cases a with
 | none=>
  obtain⟨I,rfl⟩:=h;exact k
 | some a=>
  obtain⟨I,K,Y,U⟩:=h;refine Vl K.symm (λj w hj=>?_) k;rcases I with I | I;rw[EO I];exact U j w hj;rw[I,u0] at K;rw[tg K] at hj;cases hj
theorem cn(nl:Nat):∀(r c:Nat),Builtin.growBy nl r c<=max c (2*nl+768):=by
 intro r
 induction r with
 | zero=>intro c;simp[Builtin.growBy];omega
 | succ r I=>
  intro c;simp only[Builtin.growBy];split;omega;rename_i h;have:=I (c+(c+768)/4);omega
theorem VK{need old:Nat}(h:old<need):Builtin.nextslicecap need old<=2*need+768:=by
 unfold Builtin.nextslicecap
 grind [cn]
theorem U6(z:Av_)(m:Nat):(Builtin.zeroCells z m).size=m*z.size:=by simp[Builtin.zeroCells]
def RG(B:List (Nat×Obj))(pl:Nat)(e:TypeId)(sz:Nat)(a:Option Addr)(l c:Nat)(xs:Lv_):Prop:=
 (a=none/\l=0/\c=0/\xs=[])∨∃bk f,a=some ⟨bk,0,none⟩/\B[pl]?=some (bk,.cells f e (0,0))/\f.size=c*sz/\l<=c/\xs=f.toList.take (l*sz)
theorem Sx(c:Av_)(off:Nat)(vs:Lv_)(h:off+vs.length<=c.size):(Be c off vs).toList.take (off+vs.length)=c.toList.take off++vs:=by
 induction vs generalizing c off with
 | nil=>simp[Be]
 | cons v vs K=>
  simp only[Be,tb] at*;have:=K (c.setIfInBounds off v) (off+1) AP;rw[show off+(vs.length+1)=off+1+vs.length from by omega,this];have I:off<c.toList.length:=by simp;omega
  rw[Array.toList_setIfInBounds,tp];have O:(c.toList.set off v)[off]?=some v:=by simp at I;simp[I]
  rw[O];simp[List.take_set_of_le]
theorem S7{a:Option Addr}{c id m:Nat}{z:Value}{Q:Value->St->Prop}
  (a1:ats[0]?=some t) {t1 a2:TypeId}(a3:ats[1]?=some t1) (a4:P.underlying t1=some (.slice a2)) (ht:P.underlying t=some (.slice e)) (a5:BA P e=some sz) (hb:GC P e=some id) (a6:zeroOf P e=some z) (a7:z.cells.size=sz)
  (ai:Nd E H B) (hs:RG B pl e sz a l c xs)
  (ag:Jc (mk E H B) (.slice ax m cx) sz ys) (a8:∀w∈ys,Dz w=true) (bz:0<id) (b0:l+m<=2^40) (a9:id<=64)
  (bb:∀bk f I,a=some ⟨bk,0,none⟩->B[pl]?=some (bk,.cells f e (0,0))->I=Be f (l*sz) ys->l+m<=c->I.size=c*sz->I.toList.take ((l+m)*sz)=xs++ys->Nd E H (B.set pl (bk,.cells I e (0,0)))->Q (.slice a (l+m) c) (mk E H (B.set pl (bk,.cells I e (0,0)))))
  (be:a=none->m=0->Q (.slice none 0 0) (mk E H B))
  (bg:∀r I U,l+m<=U->I.size=U*sz->I.toList.take ((l+m)*sz)=xs++ys->Nd E H (B++ [(r,.cells I e (0,0))])->Q (.slice (some ⟨r,0,none⟩) (l+m) U) (mk E H (B++ [(r,.cells I e (0,0))]))):
  lp P (Builtin.append_ ats ty #[.slice a l c,.slice ax m cx]) (mk E H B) Q X:=by
 unfold Builtin.append_;simp only[a1,a3,tq,ub,uE];refine AH _ _ (C4 ht (AH _ _ (F4 a5 (AH _ _ (C4 a4 ?_)))));simp only[Jw,s5,tP,Builtin.lenOf,w8,tS];have Y:ys.length=m*sz:=by
  cases ax with
  | none=>obtain⟨aj,al⟩:=ag;subst aj al;simp
  | some ad=>exact ag.2.1
 have am:∃(bi:Option Addr) (U:Nat),Jc (mk E H B) (.slice a l c) sz xs/\bi=a/\U=c:=by
  refine⟨a,c,?_,V,V⟩;rcases hs with⟨rfl,rfl,rfl,rfl⟩ | ⟨bk,f,rfl,Z,K,ac,rfl⟩;exact⟨V,V⟩
  .have hle:l*sz<=f.size:=by rw[K];exact tJ _ ac
   refine⟨.inl V,by simp[uN hle],ac,λj w hj=>?_⟩;refine WK ai Z ?_;simp only[uo];rw[ue] at hj;split at hj;simpa using hj;cases hj
 obtain⟨_,_,am,_,_⟩:=am;have ap:xs.length=l*sz:=by
  rcases hs with⟨rfl,rfl,rfl,rfl⟩ | ⟨bk,f,rfl,Z,K,ac,rfl⟩;simp
  .have hle:l*sz<=f.size:=by rw[K];exact tJ _ ac
   simp[uN hle]
 split
 .rename_i az;refine AH _ _ (L6 ⟨ax,cx,V⟩ ag ?_);rcases hs with⟨rfl,rfl,rfl,rfl⟩ | ⟨bk,f,rfl,Z,K,ac,rfl⟩
  .obtain rfl:m=0:=by omega
   simp only;exact be V V
  .simp only;have hle:l*sz+ys.length<=f.size:=by rw[Y,K,← uG];exact tJ _ az
   have bn:(Addr.add ⟨bk,0,none⟩ (l*sz))=⟨bk,l*sz,none⟩:=by rw[EO rfl];simp
   rw[bn];refine AH _ _ (PH (pl:=pl) ys.toArray.toList 0 f B (by simpa using a8) ai Z (by simpa using hle) (.inl V) λB' a0 aq=>?_);simp only[tQ] at a0;subst a0;refine bb bk f _ V Z V az (by rw[Oj,K]) ?_ aq;have:=Sx f (l*sz) ys hle;rw[Y,← uG] at this;exact this
 .rename_i b1;have aj:¬(((l+m:Nat):Int)>IntKind.i64.max/\(False∨id=0)):=by rintro⟨_,h | h⟩<;>omega
  have al:¬(Builtin.nextslicecap (l+m) c*id>2^48):=by
   have:=VK (need:=l+m) (old:=c) AB;have b2:Builtin.nextslicecap (l+m) c*id<=(2*(l+m)+768)*64:=Nat.mul_le_mul this a9;omega
  refine let⟨inf,av,aw⟩:=S2 hb;AH _ _ (L9 av ?_);rw[aw,d0 aj];refine AH _ _ (L9 av ?_);rw[aw,d0 al];refine AH _ _ ?_;simp only[choose,lp,Question.forced,s5,tP];refine⟨V,λbo=>?_⟩;generalize bv:(Question.appendCap (l+m) c e).cut bo=ay;have bw:l+m<=ay:=by rw[← bv];simp[Question.cut]
  refine AH _ _ (L9 av ?_);rw[aw];have bx:∀{α:Type}{f:Unit->Sem α}{Q:α->St->Prop},lp P (f ()) (mk E H B) Q X->lp P (askRoom (ay*id)>>=f) (mk E H B) Q X:=by
   intro α f Q K;refine AH _ _ ?_;unfold askRoom;split;exact⟨.inl ⟨V,V⟩,K⟩;exact K
  refine bx (AH _ _ (L6 ⟨a,c,V⟩ am (AH _ _ (L6 ⟨ax,cx,V⟩ ag (AH _ _ (Is a6 (AH _ _ (JC ai λr aq=>bg r _ ay bw ?_ ?_ aq))))))));simp only[Array.size_append,uR,U6,a7,ap,Y];rw[← uG,← uG];congr 1;omega;simp only[Array.toList_append];rw[ww (by simp[ap,Y,uG])];rw[uk (by simp[ap,Y,uG])]
end
theorem R8{P:Program}(x:Sem α):∀{s:St}{Q:α->St->Prop}{X:Halt->St->Prop},lp P x s Q X->lp P x s (λa s'=>Q a s'/\s'.E=s.E/\s'.q=s.q) X:=by
 induction x with
 | pure a=>intro s Q X h;exact⟨h,rfl,rfl⟩
 | load m a k I=>intro s Q X h;obtain⟨K,v,O,U⟩:=h;exact⟨K,v,O,I _ U⟩
 | store m a v k I=>intro s Q X h;obtain⟨K,O,o,U,Z,ac,ag⟩:=h;exact⟨K,O,o,U,Z,ac,I ag⟩
 | new o k I=>intro s Q X h;exact⟨h.1,λr K O=>I _ (h.2 r K O)⟩
 | shape r k I=>intro s Q X h;obtain⟨o,K,O⟩:=h;exact⟨o,K,I _ O⟩
 | freeze a n k I=>intro s Q X h;exact h
 | frozen a k I=>intro s Q X h;obtain⟨o,K,O⟩:=h;exact⟨o,K,I _ O⟩
 | getObj r k I=>intro s Q X h;obtain⟨o,K,O,U⟩:=h;exact⟨o,K,O,I _ U⟩
 | setObj r o k I=>intro s Q X h;obtain⟨K,O,U⟩:=h;exact⟨K,O,I U⟩
 | choose q k I=>
  intro s Q X h;simp only[lp] at h ⊢;split;rename_i Y;rw[d9 Y] at h;exact I _ h;rename_i Y;rw[d0 Y] at h;exact⟨h.1,λt=>I _ (h.2 t)⟩
 | sys c k I=>intro s Q X h;exact h
 | program k I=>intro s Q X h;exact I _ h
 | mark m k I=>intro s Q X h;exact⟨h.1,I h.2⟩
 | halt h=>intro s Q X h;exact h
def BK(D:Nat->Bool)(s:St):St:=⟨λb=>if D b then s.get b else s.E b,λb=>if D b then none else s.H b,s.q⟩
def C6(D:Nat->Bool)(s s':St):St:=⟨λb=>if D b then s.E b else s'.E b,λb=>if D b then s.H b else s'.H b,s'.q⟩
theorem Nc(D:Nat->Bool)(s:St):C6 D s (BK D s)=s:=by
 obtain⟨E,H,q⟩:=s;unfold C6 BK;congr 1;funext b;by_cases h:D b<;>simp[h];funext b;by_cases h:D b<;>simp[h]
theorem fp{D:Nat->Bool}{s:St}(f:Fits s w):Fits (BK D s) w where
 e b o h:=by
  by_cases hd:D b;simp[BK,hd] at h;exact f.get h;simp[BK,hd] at h;exact f.e b o h
 h b o h:=by
  by_cases hd:D b;simp[BK,hd] at h;simp[BK,hd] at h;exact f.h b o h
 d b h:=by
  by_cases hd:D b;simp[BK,hd];simp[BK,hd] at h ⊢;exact f.d b h
def F2{P:Program}(J:Judge P)(f:FuncId)(args:Av_)(s:St)(R:Value->St->Prop):Prop:=
 ∀(Q:Gs_) (c:Frame) (cs:Lf_),(∀v s',R v s'->J.ok Q (G (c.finish v) cs) s')->J.ok Q (G (Frame.enter P f args .normal) (c::cs)) s
variable{R:Value->St->Prop}
theorem F2.Aj{P:Program}{J:Judge P}{f:FuncId}{s:St}{I:Value->St->Prop}(h:F2 J f args s R)(K:∀v s',R v s'->I v s'):F2 J f args s I:=
 λQ c cs O=>h Q c cs λv s' U=>O v s' (K v s' U)
section
variable {b:Frame}{n:Nat}
theorem Judge.XK(D:Nat->Bool){ops:Ao_}{i:Nat}{rest:List Nat}{o:Oper}(U:ops[i]?=some o)(hw:Region.wanted o (yielded ops T)=true)(a1:b.kind≠ .early)
  (hd:∀c,o.op≠ .defer c) (a2:s.q=false)
  (h:lp P (execOp (BZ T) o) (BK D s) (λaj s'=>upon J Q b T ds ops i rest k cs o.dst aj (C6 D s s')) (λ_ _=>False)):
  J.ok Q (G (fr b T ds (Ag ops i rest k)) cs) s:=by
 refine J.step ⟨V,λw f=>?_,λe=>by subst e;cases a2⟩;have Y:((fr b T ds (Ag ops i rest k)).kind==CallKind.early)=false:=by simpa [fr] using a1
 have a3:stepG P J.main (G (fr b T ds (Ag ops i rest k)) cs) w=stepG.apply P true (fr b T ds (Ag ops i rest k)) cs none (execOp (BZ T) o) w:=by
  rw[stepG_op U hw];split;rename_i l c bb e2;exact absurd e2 (hd c);rfl
 let⟨Z,al,am,a4,K⟩:=P4 _ (R8 _ h) (fp (D:=D) f);have ap:=TF (P:=P) (fn:=b.fn) a4;have aw:=λv=>HQ (b:=b) (ds:=ds) (k:=k) T ops i rest v o U;have key:∀w',Fits Z w'->Fr (BK D s) w Z w'->Z.E=(BK D s).E->Fits (C6 D s Z) w'/\Fr s w (C6 D s Z) w':=by
  intro w' g1 g2 a5;have ay:∀b,D b=true->b<w.heap.size->w'.heap[b]?=w.heap[b]? :=λb hb aq=>g2.keep b aq (by simp[BK,hb]);have az:∀b o,(s.H b=some o∨s.E b=some o)->b<w.heap.size:=λb o U=>by
   have:=U.elim (f.h b o) (f.e b o);rcases mt b w.heap.size with av | av;exact av;simp[ta av] at this
  refine⟨⟨λb o hb=>?_,λb o hb=>?_,λb hb=>?_⟩,⟨g2.size,λb aq hb=>?_,λb hb=>?_,λb o hb=>?_,λb hb=>?_,g2.tape,g2.os,g2.output⟩⟩;by_cases I:D b;simp[C6,I] at hb;rw[ay b I (az b o (.inr hb))];exact f.e b o hb;simp[C6,I] at hb;exact g1.e b o hb;by_cases I:D b;simp[C6,I] at hb;rw[ay b I (az b o (.inl hb))];exact f.h b o hb;simp[C6,I] at hb;exact g1.h b o hb;by_cases I:D b;simp[C6,I] at hb ⊢;exact f.d b hb;simp[C6,I] at hb ⊢;exact g1.d b hb;exact g2.keep b aq (by by_cases I:D b<;>simp[BK,I,hb]);by_cases I:D b;simp[C6,I] at hb;exact .inl hb;simp[C6,I] at hb;rcases g2.own b hb with q | q;left;simpa [BK,I] using q;exact .inr q;by_cases I:D b;simp[C6,I];exact hb;simp only[C6,I,s5,tP];rw[a5];simp[BK,I,hb];by_cases I:D b;simp[C6,I] at hb;exact .inl hb;simp[C6,I] at hb;rcases g2.F8 b hb with q | q | q;left;simpa [BK,I] using q;right;left;simpa [BK,I] using q;exact .inr (.inr q)
 have a6:∀w',(∀e∈seen P b.fn ((execOp (BZ T) o).events P w #[]),Ev (BK D s) w w' e)->∀e∈seen P b.fn ((execOp (BZ T) o).events P w #[]),Ev s w w' e:=by
  intro w' he e hm;have:=he e hm;have a0:∀{b wr},H6 (BK D s) w w' b wr->H6 s w w' b wr:=by
   intro b wr ht;refine⟨ht.1,?_⟩;rcases ht.2 with q | q | ⟨q,q'⟩;left;by_cases I:D b<;>simp[BK,I] at q;exact q;exact .inr (.inl q);by_cases I:D b;simp[BK,I,St.get] at q;by_cases ai:s.E b=none;left;intro a7;rw[ai,a7] at q;exact q V;exact .inr (.inr ⟨ai,q'⟩);simp[BK,I] at q;exact .inr (.inr ⟨q,q'⟩)
  unfold Ev at this ⊢;split<;>rename_i a8<;>simp only[a8] at this;exact⟨this.1,a0 this.2⟩;exact⟨this.1,a0 this.2⟩;trivial;trivial
 rw[a3];cases O:(execOp (BZ T) o).run P w with
 | ok aj w'=>
  rw[O] at al am K ap;simp only[MI] at al am ap;obtain⟨K,ai,_⟩:=K;let⟨k1,ac⟩:=key w' al am ai;have ag:=a6 w' ap;cases aj with
  | value v=>exact⟨_,_,w',seen P b.fn ((execOp (BZ T) o).events P w #[])++ #[],by simp[stepG.apply,O,Y,GStep.after,G,aw,Hv],K,k1,ac,by simpa using ag⟩
  | skip=>exact⟨_,_,w',seen P b.fn ((execOp (BZ T) o).events P w #[])++ #[],by simp[stepG.apply,O,Y,GStep.after,G,aw,Hv],K,k1,ac,by simpa using ag⟩
  | enter g args=>exact⟨_,_,w',seen P b.fn ((execOp (BZ T) o).events P w #[])++ #[],by simp[stepG.apply,O,Y,GStep.after,G,Hv,JH],K,k1,ac,by simpa using ag⟩
  | round l g tm as be=>exact⟨_,_,w',seen P b.fn ((execOp (BZ T) o).events P w #[])++ #[],by simp[stepG.apply,O,Y,GStep.after,G,Hv,JH],K,k1,ac,by simpa using ag⟩
  | defer d=>
   have a9:=HQ (b:=b) (ds:=d::ds) (k:=k) T ops i rest undef o U;exact⟨_,_,w',seen P b.fn ((execOp (BZ T) o).events P w #[])++ #[],by
    rw[← a9];simp[stepG.apply,O,Y,GStep.after,G,Hv,JH];rfl,K,k1,ac,by simpa using ag⟩
  | _=>exact K.elim
 | halt x w'=>rw[O] at K;exact K.elim
end
def UO(m:Nat)(listed:Array Bool):Bool:=(List.range m).all λi=>listed.getD i false
def Bp(listed:Array Bool)(i:Nat):Array Bool:=listed.setIfInBounds i true
variable{oi:Oper}
section
variable (J:Judge P)(Q:Gs_)(b:Frame)(ds:Ld_)(ops:Ao_)(k:Li_)(cs:Lf_)(m:Nat)(D:Nat->Bool)
def JA:Nat->Array Bool->Av_->St->Prop
 | 0,listed,T,s=>Region.ready .any ops listed=[]/\J.ok Q (G (fr b T ds (.inRegion ops []::k)) cs) s
 | fuel+1,listed,T,s=>
  (UO m listed=true/\∀t,J.ok Q (G (fr b T ds (.inRegion ops (Region.linearise.go .any ops (fuel+1) t listed [])::k)) cs) s)∨
  (Region.ready .any ops listed≠ []/\s.q=false/\∀i∈Region.ready .any ops listed,∀o,ops[i]?=some o->(∀c,o.op≠ .defer c)/\
   (Region.wanted o (yielded ops T)=false->JA fuel (Bp listed i) (DU T o.dst undef) s)/\
   (Region.wanted o (yielded ops T)=true->lp P (execOp (BZ T) o) (BK D s) (λK s'=>match K with
    | .value v=>JA fuel (Bp listed i) (DU T o.dst v) (C6 D s s')
    | .skip=>JA fuel (Bp listed i) (DU T o.dst undef) (C6 D s s')
    | .enter f args=>∃R,F2 J f args (C6 D s s') R/\∀v I,R v I->I.q=false/\(∀x o,(BK D s).E x=some o->(BK D I).E x=some o)/\JA fuel (Bp listed i) (DU T o.dst v) I
    | _=>False) (λ_ _=>False)))
variable {J Q b ds ops k cs m D}
theorem dF(Y:b.kind≠ .early):∀(fuel t:Nat) (listed:Array Bool) (T:Av_) (s:St),JA J Q b ds ops k cs m D fuel listed T s->
  J.ok Q (G (fr b T ds (.inRegion ops (Region.linearise.go .any ops fuel t listed [])::k)) cs) s:=by
 intro fuel
 induction fuel with
 | zero=>intro t listed T s h;simpa [Region.linearise.go] using h.2
 | succ fuel I=>
  intro t listed T s h;rcases h with⟨_,h⟩ | ⟨Z,ac,h⟩;exact h t
  .obtain⟨i,hi⟩:∃i,(Region.ready .any ops listed)[t%(Region.ready .any ops listed).length]?=some i:=by
    have:0<(Region.ready .any ops listed).length:=vK.2 Z;exact⟨_,bZ (wn _ this)⟩
   have U:=sU hi;have hgo:Region.linearise.go .any ops (fuel+1) t listed []=i::Region.linearise.go .any ops fuel (t/(Region.ready .any ops listed).length) (Bp listed i) []:=by
    simp only[Region.linearise.go];change (match(Region.ready .any ops listed)[t%(Region.ready .any ops listed).length]? with
     | some i=>Region.linearise.go .any ops fuel (t/(Region.ready .any ops listed).length) (listed.setIfInBounds i true) [i]
     | none=>[].reverse)=_
    rw[hi];simp only;rw[linearise_go_acc];rfl
   rw[hgo];let⟨_,o,K,_⟩:=mem_ready.1 U;let⟨hd,ag,ai⟩:=h i U o K;cases hw:Region.wanted o (yielded ops T) with
   | false=>exact E9 K hw (I _ _ _ _ (ag hw))
   | true=>
    refine Judge.XK D K hw Y hd ac (Fy _ (ai hw) ?_ (λ_ _ h=>h));intro aj s' O;cases aj with
    | value v=>exact I _ _ _ _ O
    | skip=>exact I _ _ _ _ O
    | enter f args=>
     obtain⟨R,al,am⟩:=O;refine al Q _ cs λv ap aq=>?_;rw[HQ _ _ _ _ _ _ K];exact I _ _ _ _ (am v ap aq).2.2
    | _=>exact O.elim
theorem iN{d:Option Tmp}{v:Value}{x:Operand}(h:∀t,d=some t->x≠ .tmp t):BZ (DU T d v) x=BZ T x:=by
 cases d with
 | none=>rfl
 | some t=>
  cases x with
  | tmp u=>
   have I:t≠u:=λe=>h t rfl (e▸rfl);simp only[DU,BZ,no,sN I]
  | _=>rfl
theorem Jy{d:Option Tmp}{v:Value}{o:Oper}(hs:∀cs b,o.op≠ .select cs b)(h:∀t,d=some t->t ∉ o.looksAt ops):
  execOp (BZ (DU T d v)) o=execOp (BZ T) o/\Region.wanted o (yielded ops (DU T d v))=Region.wanted o (yielded ops T):=by
 refine⟨execOp_congr o hs λx I=>iN λt ht K=>h t ht ?_,?_⟩;subst K;exact tv _ (vT.2 ⟨.tmp t,by simpa using I,V⟩)
 .have:=wanted_put (ops:=ops) o (⟨T,[]⟩:Act) d v h
  rwa[act_put'] at this
 where
  act_put' {T : Av_}{d : Option Tmp}{v : Value} : (⟨T, []⟩ : Act).put d v = ⟨DU T d v, []⟩ :=by cases d<;>rfl
theorem KR{d e:Option Tmp}{v u:Value}(h:∀t,d=some t->e≠some t):DU (DU T d v) e u=DU (DU T e u) d v:=by
 cases d with
 | none=>rfl
 | some t=>
  cases e with
  | none=>rfl
  | some I=>
   have K:t≠I:=λq=>h t rfl (q▸rfl);simp[DU,vU _ _ K]
theorem Vw{D:Nat->Bool}{s s':St}(I:s'.E=(BK D s).E):(BK D (C6 D s s')).E=(BK D s).E:=by
 funext x;by_cases h:D x;simp[BK,C6,h,St.get];have:=congrFun I x;simp[BK,h] at this;simp[BK,C6,h,this]
def Ks(ops:Ao_)(listed:Array Bool)(i:Nat)(oi:Oper):Bool:=
 (List.range ops.size).all λj=>j==i || listed.getD j true || match ops[j]? with
  | some oj=>(oj.after.any λe=>Region.binds .any e&&e.on==i) || oi.apart ops oj
  | none=>true
def waits(ops:Ao_):Nat->Nat->Nat->Bool
 | 0,_,_=>false
 | f+1,j,i=>match ops[j]? with
  | some oj=>oj.after.any λe=>Region.binds .any e&&(e.on==i || waits ops f e.on i)
  | none=>true
def Fg(ops:Ao_)(m:Nat):Bool:=
 (List.range ops.size).all λj=>decide (j<m) || (List.range m).all λi=>waits ops ops.size j i
def I6(ops:Ao_)(listed:Array Bool):Bool:=
 (List.range ops.size).all λj=> !listed.getD j false || match ops[j]? with
  | some oj=>oj.after.all λe=> !Region.binds .any e || listed.getD e.on false
  | none=>true
theorem Sz{listed:Array Bool}(h:I6 ops listed=true){j:Nat}{oj:Oper}(hj:ops[j]?=some oj)(I:listed.getD j false=true):∀e∈oj.after,Region.binds .any e=true->listed.getD e.on false=true:=by
 intro e he hb;have:=td.1 h j (s4.2 (f7.1 hj).1);rw[I,hj] at this;simp only[wI,wJ] at this;have:=u3.1 this e he;rw[hb] at this;simpa using this
theorem Vk{listed:Array Bool}(U:I6 ops listed=true){i:Nat}:∀(f j:Nat) (oj:Oper),ops[j]?=some oj->(∀e∈oj.after,Region.binds .any e=true->listed.getD e.on false=true)->waits ops f j i=true->listed.getD i false=true∨∃x,ops[x]?=none/\listed.getD x false=true:=by
 intro f
 induction f with
 | zero=>intro j oj _ _ h;cases h
 | succ f Y=>
  intro j oj hj hd h;simp only[waits,hj] at h;let⟨e,he,I⟩:=Array.any_eq_true'.1 h;simp only[f6,t8,uI] at I;obtain⟨hb,I⟩:=I;have K:=hd e he hb;rcases I with rfl | I;exact .inl K
  .cases O:ops[e.on]? with
   | none=>exact .inr ⟨_,O,K⟩
   | some o=>exact Y e.on o O (λZ ac ag=>Sz U O K Z ac ag) I
theorem JA.take{i:Nat}{w:Bool}{v:Value}(hi:ops[i]?=some oi)(b6:i<m)(ca:Fg ops m=true)(cc:Region.noSelect ops=true)(ce:∀c,oi.op≠ .defer c):
  ∀(fuel:Nat) (listed:Array Bool) (T:Av_) (s:St),Ks ops listed i oi=true->I6 ops listed=true->listed.size=ops.size->i∈Region.ready .any ops listed->s.q=false->Region.wanted oi (yielded ops T)=w->
   (w=true->∀s',s'.q=false->(∀x o,(BK D s).E x=some o->s'.E x=some o)->Yl P oi (BZ T) s' v)->
   JA J Q b ds ops k cs m D fuel (Bp listed i) (DU T oi.dst (if w then v else undef)) s->JA J Q b ds ops k cs m D (fuel+1) listed T s:=by
 have al:∀(j:Nat) (oj:Oper),ops[j]?=some oj->∀cs b,oj.op≠Op.select cs b:=λj oj h cs b=>Region.noSelect_spec cc j oj cs b h;intro fuel
 induction fuel with
 | zero=>?_
 | succ fuel aw=>?_
 all_goals
  intro listed T s bv bw am ay az hw ap h;refine .inr ⟨λe=>(by rw[e] at ay;cases ay),az,λj hj oj K=>?_⟩;by_cases aj:j=i
  .subst aj;obtain rfl:oj=oi:=by rw[hi] at K;exact(f8 K).symm
   refine⟨ce,λa8=>?_,λa9=>?_⟩;rw[a8] at hw;subst hw;exact h;rw[a9] at hw;subst hw;refine Fy _ (ap V (BK D s) az λ_ _ h=>h).out ?_ (λ_ _ h=>h);rintro bx s' ⟨rfl,rfl⟩;rw[Nc];exact h
  ·
   have bz:j∈Region.ready .any ops (Bp listed i):=ready_mono hj aj;let⟨ac,O,b0,bb⟩:=mem_ready.1 hj;obtain rfl:O=oj:=by rw[K] at b0;exact(f8 b0).symm
   have be:=(mem_ready.1 ay).1;have ci:(O.after.any λe=>Region.binds .any e&&e.on==i)=false:=by
    rw[Array.any_eq_false];intro e he I;simp only[f6,uI] at I;have:=bb _ (Array.getElem_mem he) I.1;rw[I.2] at this;have U:listed.getD i true=listed.getD i false∨listed.size<=i:=by
     rcases mt i listed.size with q | q;left;simp[no,q];exact .inr q
    rcases U with U | U;rw[be,this] at U;cases U;rw[no,ta U] at this;simp at this
   have co:oi.apart ops O=true:=by
    have aq:j<ops.size:=(f7.1 K).1;have:=td.1 bv j (s4.2 aq);simp only[t8,uI] at this;rcases this with(q | q) | q;exact absurd q aj;rw[ac] at q;cases q;rw[K] at q;simp only[t8] at q;rw[ci] at q;exact q.resolve_left AM
   let⟨a1,a0,a2⟩:=Oper.apart_spec co;let⟨p1,p2⟩:=Jy (ops:=ops) (T:=T) (v:=if w then v else undef) (al j O K) a1
   first
    | exact absurd bz (by rw[h.1];simp)
    | (
     rcases h with⟨cp,_⟩ | ⟨c9,_,h⟩
     ·
      exfalso
      have ct:¬j<m:=by
       intro aq
       have:=td.1 cp j (s4.2 aq)
       have e2:(Bp listed i).getD j false=listed.getD j false:=getD_set_ne false (ti aj)
       rw[e2] at this
       have U:listed.getD j true=true:=by
        rcases mt j listed.size with q | q;simp[no,q] at this ⊢;exact this;simp[no,ta q] at this
       rw[ac] at U;cases U
      have aq:j<ops.size:=(f7.1 K).1
      have:=td.1 ca j (s4.2 aq)
      simp only[t8,uj] at this
      have:=td.1 (this.resolve_left ct) i (s4.2 b6)
      rcases Vk bw _ j O K (λe he hb=>bb e he hb) this with q | ⟨x,Y,Z⟩
      .have cw:i<listed.size:=by rw[am];exact(f7.1 hi).1
       simp[no,cw] at q be
       rw[be] at q;cases q
      .have:¬x<listed.size:=by rw[am];intro I;simp[I] at Y
       simp[no,this] at Z
     .let⟨hd,a8,a9⟩:=h j bz O K
      have a3:Bp (Bp listed i) j=Bp (Bp listed j) i:=by
       unfold Bp;exact vU _ _ (ti aj)
      have a4:i∈Region.ready .any ops (Bp listed j):=ready_mono ay (ti aj)
      have a5:Ks ops (Bp listed j) i oi=true:=by
       refine td.2 λx I=>?_
       have:=td.1 bv x I
       simp only[t8,uI] at this ⊢
       rcases this with(q | q) | q;exact .inl (.inl q)
       .left;right
        by_cases e:j=x;subst e;rw[ac] at q;cases q;rw[Bp,getD_set_ne true e];exact q
       .exact .inr q
      have a6:(Bp listed j).size=ops.size:=by unfold Bp;simpa using am
      have a7:I6 ops (Bp listed j)=true:=by
       refine td.2 λx I=>?_
       cases bg:ops[x]? with
       | none=>simp
       | some cy=>
        simp only[t8,vc]
        by_cases e:j=x
        .subst e
         obtain rfl:cy=O:=by rw[K] at bg;exact(f8 bg).symm
         right
         refine u3.2 λe he=>?_
         cases hb:Region.binds .any e with
         | false=>simp
         | true=>
          have:=bb e he hb
          by_cases e2:j=e.on
          .rw [← e2] at this
           have bi:j<listed.size:=by rw[am];exact(f7.1 K).1
           simp[no,bi] at this ac
           rw[ac] at this;cases this
          .rw [Bp,getD_set_ne false e2];simpa using this
        .cases b1:(Bp listed j).getD x false with
         | false=>exact .inl rfl
         | true=>
          right
          have c0:listed.getD x false=true:=by rw[Bp,getD_set_ne false e] at b1;exact b1
          refine u3.2 λbn he=>?_
          cases hb:Region.binds .any bn with
          | false=>simp
          | true=>
           have:=Sz bw bg c0 bn he hb
           by_cases e2:j=bn.on
           .rw [← e2] at this
            have bi:j<listed.size:=by rw[am];exact(f7.1 K).1
            simp[no,bi] at this ac
            rw[ac] at this;cases this
           .rw [Bp,getD_set_ne false e2];simpa using this
      refine⟨hd,λc2=>?_,λc3=>?_⟩
      .have:=a8 (by rw[p2];exact c2)
       rw[a3,KR a0] at this
       let⟨Y,Z⟩:=Jy (ops:=ops) (T:=T) (d:=O.dst) (v:=undef) (o:=oi) (al i oi hi) a2
       exact aw _ _ _ a5 a7 a6 a4 az (by rw[Z];exact hw) (λag s' c4 bo=>by unfold Yl;rw[Y];exact(ap ag s' c4 bo).out) this
      .have b2:=R8 _ (a9 (by rw[p2];exact c3))
       rw[p1] at b2
       refine Fy _ b2 ?_ (λ_ _ h=>h)
       rintro bx s' ⟨I,bo,c5⟩
       have b3:=Vw (D:=D) bo
       have b4:(C6 D s s').q=false:=by show s'.q=false;rw[c5];exact az
       cases bx with
       | value u=>
        simp only at I ⊢
        rw[a3,KR a0] at I
        let⟨Y,Z⟩:=Jy (ops:=ops) (T:=T) (d:=O.dst) (v:=u) (o:=oi) (al i oi hi) a2
        exact aw _ _ _ a5 a7 a6 a4 b4 (by rw[Z];exact hw) (λag s2 av ai=>by unfold Yl;rw[Y];exact(ap ag s2 av (by rw[b3] at ai;exact ai)).out) I
       | skip=>
        simp only at I ⊢
        rw[a3,KR a0] at I
        let⟨Y,Z⟩:=Jy (ops:=ops) (T:=T) (d:=O.dst) (v:=undef) (o:=oi) (al i oi hi) a2
        exact aw _ _ _ a5 a7 a6 a4 b4 (by rw[Z];exact hw) (λag s2 av ai=>by unfold Yl;rw[Y];exact(ap ag s2 av (by rw[b3] at ai;exact ai)).out) I
       | enter f args=>
        obtain⟨R,c6,c7⟩:=I
        refine⟨R,c6,λu c8 hu=>?_⟩
        let⟨b5,r1,r2⟩:=c7 u c8 hu
        refine⟨b5,r1,?_⟩
        rw[a3,KR a0] at r2
        let⟨Y,Z⟩:=Jy (ops:=ops) (T:=T) (d:=O.dst) (v:=u) (o:=oi) (al i oi hi) a2
        exact aw _ _ _ a5 a7 a6 a4 b5 (by rw[Z];exact hw) (λag s2 av ai=>by unfold Yl;rw[Y];exact(ap ag s2 av (λx o I=>ai x o (r1 x o I))).out) r2
       | _=>exact I.elim)
end
section
variable (J:Judge P)(Q:Gs_)(b:Frame)(n:Nat)(ds:Ld_)(ops:Ao_)(k:Li_)(cs:Lf_)(m:Nat)(D:Nat->Bool)
def AU(fuel:Nat)(listed:Array Bool)(L:Env)(s:St):Prop:=∀T,Has n L T->JA J Q b ds ops k cs m D fuel listed T s
end
def En:Nat->Bool:=λ_=>false
variable {D:Nat->Bool}{listed:Array Bool}
variable{tail:List Nat}
section
variable {b:Frame}{n m fuel:Nat}
theorem Tk(m:Nat)(D:Nat->Bool){id:Nat}(I:s.q=false)(hm:P.follows .mixedOrders=true)(K:(b.kind != .early)=true)(h:AU J Q b n ds ops k cs m D ops.size (Array.replicate ops.size false) L s):JL J Q b n L ds (.code (.region id ops true)::k) cs s:=
 XB I hm λt T O=>dF (by simpa using K) ops.size t _ T s (h T O)
theorem b9{i:Nat}{v:Value}(hi:ops[i]?=some oi)(O:decide (i<m)=true)(U:Fg ops m=true)(Y:Region.noSelect ops=true)(K:(!EP oi.op)=true)(Z:Ks ops listed i oi=true)(ac:I6 ops listed=true)(ag:(listed.size==ops.size)=true)(ai:(Region.ready .any ops listed).contains i=true)(aj:s.q=false)
  (hw:A9 L ops oi=some true) (al:BC n oi.dst=true) (am:∀ρ,FV L ρ->∀s',s'.q=false->(∀x o,(BK D s).E x=some o->s'.E x=some o)->Yl P oi ρ s' v)
  (h:AU J Q b n ds ops k cs m D fuel (Bp listed i) (AG L oi.dst v) s):AU J Q b n ds ops k cs m D (fuel+1) listed L s:=λT I=>by
 refine JA.take (w:=true) (v:=v) hi (by simpa using O) U Y (λc ap=>by rw[ap] at K;simp[EP] at K) fuel listed T s Z ac (by simpa using ag) (by simpa using ai) aj (CI I hw) (λ_ s' aq av=>am _ I.Hu s' aq av) ?_
 exact h _ (I.put al v)
theorem cg{i:Nat}(hi:ops[i]?=some oi)(O:decide (i<m)=true)(U:Fg ops m=true)(Y:Region.noSelect ops=true)(I:(!EP oi.op)=true)(Z:Ks ops listed i oi=true)(ac:I6 ops listed=true)(ag:(listed.size==ops.size)=true)(ai:(Region.ready .any ops listed).contains i=true)(aj:s.q=false)
  (hw:A9 L ops oi=some false) (al:BC n oi.dst=true)
  (h:AU J Q b n ds ops k cs m D fuel (Bp listed i) (AG L oi.dst undef) s):AU J Q b n ds ops k cs m D (fuel+1) listed L s:=λT K=>by
 refine JA.take (w:=false) (v:=undef) hi (by simpa using O) U Y (λc am=>by rw[am] at I;simp[EP] at I) fuel listed T s Z ac (by simpa using ag) (by simpa using ai) aj (CI K hw) (λe=>by cases e) ?_
 exact h _ (K.put al undef)
theorem WY(ag:s.q=false)(ai:Region.ready .any ops listed≠ [])
  (h:∀i∈Region.ready .any ops listed,∀o,ops[i]?=some o->(!EP o.op)=true/\BC n o.dst=true/\∃w,A9 L ops o=some w/\
   (w=false->AU J Q b n ds ops k cs m D fuel (Bp listed i) (AG L o.dst undef) s)/\
   (w=true->∀ρ,FV L ρ->lp P (execOp ρ o) (BK D s) (λZ s'=>match Z with
    | .value v=>AU J Q b n ds ops k cs m D fuel (Bp listed i) (AG L o.dst v) (C6 D s s')
    | .skip=>AU J Q b n ds ops k cs m D fuel (Bp listed i) (AG L o.dst undef) (C6 D s s')
    | .enter f args=>∃R,F2 J f args (C6 D s s') R/\∀v I,R v I->I.q=false/\(∀x o,(BK D s).E x=some o->(BK D I).E x=some o)/\AU J Q b n ds ops k cs m D fuel (Bp listed i) (AG L o.dst v) I
    | _=>False) (λ_ _=>False))):
  AU J Q b n ds ops k cs m D (fuel+1) listed L s:=λT K=>by
 refine .inr ⟨ai,ag,λi hi o aj=>?_⟩
 let⟨ac,O,w,hw,al,am⟩:=h i hi o aj
 have U:=CI K hw
 refine⟨λc ap=>by rw[ap] at ac;simp[EP] at ac,λe=>?_,λe=>?_⟩
 .rw [e] at U
  exact al U.symm _ (K.put O undef)
 .rw [e] at U;refine Fy _ (am U.symm _ K.Hu) ?_ (λ_ _ h=>h);intro Z s' Y;cases Z with
  | value v=>exact Y _ (K.put O v)
  | skip=>exact Y _ (K.put O undef)
  | enter f args=>
   obtain⟨R,aq,av⟩:=Y;exact⟨R,aq,λv I aw=>let ⟨a,b,c⟩:=av v I aw;⟨a,b,c _ (K.put O v)⟩⟩
  | _=>exact Y.elim
theorem AU.one{i:Nat}{o:Oper}(Y:s.q=false)(O:Region.ready .any ops listed=[i])(hi:ops[i]?=some o)(K:(!EP o.op&&BC n o.dst)=true)(hw:A9 L ops o=some true)
  (h:∀ρ,FV L ρ->lp P (execOp ρ o) (BK D s) (λZ s'=>match Z with
    | .value v=>AU J Q b n ds ops k cs m D fuel (Bp listed i) (AG L o.dst v) (C6 D s s')
    | .skip=>AU J Q b n ds ops k cs m D fuel (Bp listed i) (AG L o.dst undef) (C6 D s s')
    | .enter f args=>∃R,F2 J f args (C6 D s s') R/\∀v I,R v I->I.q=false/\(∀x o,(BK D s).E x=some o->(BK D I).E x=some o)/\AU J Q b n ds ops k cs m D fuel (Bp listed i) (AG L o.dst v) I
    | _=>False) (λ_ _=>False)):
  AU J Q b n ds ops k cs m D (fuel+1) listed L s:=by
 simp only[f6] at K;refine WY Y (by rw[O];simp) λj hj o' U=>?_;rw[O] at hj;simp at hj;subst hj;obtain rfl:o'=o:=by rw[hi] at U;exact(f8 U).symm
 exact⟨K.1,K.2,true,hw,λe=>(by cases e),λ_=>h⟩
theorem AU.call{i:Nat}{d:Option Tmp}{f:FuncId}{args:Array Operand}{ty:TypeId}{p:String}{af:Ae_}{g:On_}(O:s.q=false)(U:Region.ready .any ops listed=[i])
  (Y:ops[i]?=some ⟨d,.call ⟨.value (.func f),args,ats⟩,ty,p,af,g⟩) (Z:BC n d=true) (hw:A9 L ops ⟨d,.call ⟨.value (.func f),args,ats⟩,ty,p,af,g⟩=some true) (hb:ET P f=true) (ac:evs L args.toList=some vs)
  (ag:F2 J f vs.toArray s R) (h:∀v I,R v I->I.q=false/\(∀x o,(BK D s).E x=some o->(BK D I).E x=some o)/\AU J Q b n ds ops k cs m D fuel (Bp listed i) (AG L d v) I):
  AU J Q b n ds ops k cs m D (fuel+1) listed L s:=by
 refine AU.one O U Y (by simp[EP,Z]) hw λρ K=>?_;have ai:args.map ρ=vs.toArray:=by
  rw[← HP K ac];apply ut;simp
 have aj:ρ (.func f)=.func (.func f) #[] #[]:=K _ _ V;simp only[execOp,resolve,bind,Sem.bind,Deferred.ofValue,aj,pure,invoke];have e: #[]++args.map ρ++ #[]=vs.toArray:=by rw[ai];simp
 rw[e];refine KP hb ?_;rw[Nc];exact⟨R,ag,h⟩
theorem AU.leaf(I:UO m listed=true)(hgo:∀t,Region.linearise.go .any ops (fuel+1) t listed []=tail)(h:JL J Q b n L ds (.inRegion ops tail::k) cs s):AU J Q b n ds ops k cs m D (fuel+1) listed L s:=λT K=>
 .inl ⟨I,λt=>by rw[hgo t];exact h T K⟩
theorem AU.fin(I:Region.ready .any ops listed=[])(h:JL J Q b n L ds k cs s):AU J Q b n ds ops k cs m D 0 listed L s:=λT K=>⟨I,A1 h T K⟩
abbrev DP:=@AU.fin
theorem j2{listed:Array Bool}{i:Nat}(I:Region.ready .any ops listed=[i])(h:∀t,Region.linearise.go .any ops sz t (Bp listed i) []=tail)(t:Nat):Region.linearise.go .any ops (sz+1) t listed []=i::tail:=by
 simp only[Region.linearise.go];change (match(Region.ready .any ops listed)[t%(Region.ready .any ops listed).length]? with
  | some i=>Region.linearise.go .any ops sz (t/(Region.ready .any ops listed).length) (listed.setIfInBounds i true) [i]
  | none=>[].reverse)=_
 rw[I];simp only[ui,Nat.mod_one,ub];rw[linearise_go_acc];have:=h (t/1);unfold Bp at this;rw[this];rfl
theorem dV{i:Nat}{rest:List Nat}{d:Option Tmp}{f:FuncId}{args:Array Operand}{ty:TypeId}{p:String}{af:Ae_}{g:On_}
  (O:ops[i]?=some ⟨d,.call ⟨.value (.func f),args,ats⟩,ty,p,af,g⟩) (hw:A9 L ops ⟨d,.call ⟨.value (.func f),args,ats⟩,ty,p,af,g⟩=some true) (I:((b.kind != .early)&&BC n d)=true) (hb:ET P f=true)
  (U:evs L args.toList=some vs) (Y:F2 J f vs.toArray s R) (Z:∀v s',R v s'->JL J Q b n (AG L d v) ds (Ah ops rest k) cs s'):
  JL J Q b n L ds (Ag ops i rest k) cs s:=λT K=>by
 simp only[f6] at I
 have ac:args.map (BZ T)=vs.toArray:=by
  rw[← HP K.Hu U];apply ut;simp
 refine DI O (CI K hw) (by simpa using I.1) (.inr λc ag=>by cases ag) ?_;have hd:lp P (execOp (BZ T) ⟨d,.call ⟨.value (.func f),args,ats⟩,ty,p,af,g⟩) s (upon J Q b T ds ops i rest k cs d) (NO J Q b T ds ops i rest k cs):=by
  simp only[execOp,resolve,bind,Sem.bind,Deferred.ofValue,BZ,pure,invoke];have e: #[]++args.map (BZ T)++ #[]=vs.toArray:=by rw[ac];simp
  rw[e];refine KP hb (Y Q _ cs λv s' ai=>?_);rw[HQ (o:=⟨d,.call ⟨.value (.func f),args,ats⟩,ty,p,af,g⟩) _ _ _ _ _ O];exact Z v s' ai _ (K.put I.2 v)
 exact hd
theorem F2.enter{f:FuncId}{c:Code}(U:P.funcs[f]?=some fn)(hb:fn.body=some c)(ac:vs.length<=fn.ntmps)
  (h:∀(Q:Gs_) (I:Frame) (cs:Lf_),(∀v s',R v s'->J.ok Q (G (I.finish v) cs) s')->JL J Q (base f) fn.ntmps (HD 0 vs) [] [.code c] (I::cs) s):F2 J f vs.toArray s R:=λQ I cs Y=>by
 have he:Frame.enter P f vs.toArray .normal=fr (base f) (vs.toArray++Array.replicate (fn.ntmps - vs.length) undef) [] [.code c]:=by
  simp[Frame.enter,fr,U,hb,base];rfl
 rw[he];refine h Q I cs Y _ ⟨by simp;omega,λt v ht=>?_⟩;let⟨_,K⟩:=Ln ht;have Z:t<vs.length:=by
  rcases mt t vs.length with O | O;exact O;simp at K;have:=(d7.1 K).1;omega
 rw[no,ua (by simpa using Z)];simp at K;simp[K]
end
variable {E':LH}{B0:List (Nat×Obj)}
variable{blk:List (Nat×Obj)}
section
variable {b:Frame}{n:Nat}
theorem XS(K:s.q=false)(h:(∃w,Fits s w)->JL J Q b n L ds k cs s):JL J Q b n L ds k cs s:=λT O=>by
 by_cases I:∃w,Fits s w;exact h I T O;exact J.step ⟨V,λw f=>absurd ⟨w,f⟩ I,λe=>by subst e;cases K⟩
theorem VE{x:Nat}:∀{B:List (Nat×Obj)},(∃p∈B,p.1=x)->Bu B H x≠none
 | [],⟨p,I,_⟩=>by cases I
 | (c,o)::B,⟨p,I,e⟩=>by
  simp only[Bu]
  split;simp;rename_i K;rcases ja.1 I with q | q;subst q;exact absurd e.symm K;exact VE ⟨p,q,e⟩
theorem Nd.grow(K:Nd E H B)(hd:∀x,E' x≠none->Bu B H x=none):Nd E' H B:=by
 have key:∀{C:List (Nat×Obj)},Nd E H C->(∀p∈C,p∈B)->Nd E' H C:=by
  intro C
  induction C with
  | nil=>intro _ _;trivial
  | cons p C O=>
   obtain⟨c,o⟩:=p;intro hC hs;refine⟨?_,hC.2.1,hC.2.2.1,O hC.2.2.2 λp I=>hs p (kW _ I)⟩;cases U:E' c with
   | none=>rfl
   | some u=>exact absurd (hd c (by rw[U];simp)) (VE ⟨(c,o),hs _ AM,rfl⟩)
 exact key K λp I=>I
def Sd(E:LH)(sz:Nat)(v:Value)(n:Nat)(xs:Lv_):Prop:=
 ∃a c,v=.slice a n c/\n<=c/\xs.length=n*sz/\(n=0∨∃bk off f e fr,a=some ⟨bk,off,none⟩/\E bk=some (.cells f e fr)/\∀j w,xs[j]?=some w->f[off+j]?=some w)
theorem Sd.nil:Sd E sz (.slice none 0 0) 0 []:=⟨none,0,V,jK _,AM,.inl V⟩
def GS(e:TypeId)(sz:Nat)(a:Option Addr)(l c:Nat)(blk:List (Nat×Obj))(xs:Lv_):Prop:=
 (a=none/\l=0/\c=0/\blk=[]/\xs=[])∨∃bk f,a=some ⟨bk,0,none⟩/\blk=[(bk,.cells f e (0,0))]/\f.size=c*sz/\l<=c/\xs=f.toList.take (l*sz)
theorem GS.nil{e:TypeId}:GS e sz none 0 0 [] []:=.inl ⟨V,V,V,V,V⟩
theorem GS.length{e:TypeId}{a:Option Addr}{c:Nat}(h:GS e sz a l c blk xs):xs.length=l*sz:=by
 rcases h with⟨_,rfl,_,_,rfl⟩ | ⟨bk,f,_,_,I,K,rfl⟩;simp;have:l*sz<=c*sz:=tJ _ K;simp[I,uN this]
theorem ZL{t e:TypeId}{v:Value}{Q:Value->St->Prop}{z:Value}(ht:P.underlying t=some (.slice e))(I:BA P e=some v.cells.size)(K:zeroOf P e=some z)(ac:z.cells.size=v.cells.size)(ag:0<v.cells.size)(ai:v.cells.size<=64)
  (O:Nd E H B) (k:∀r,Nd E H (B++ [(r,.cells v.cells e (0,0))])->Q (.slice (some ⟨r,0,none⟩) 1 1) (mk E H (B++ [(r,.cells v.cells e (0,0))]))):lp P (Instr.buildSlice t 1 #[(0,v)]) (mk E H B) Q X:=by
 unfold Instr.buildSlice;refine AH _ _ (C4 ht (AH _ _ (F4 I ?_)));rw[d0 AB,d0 AB];refine AH (x:=zeroValue e) _ (Is K ?_);have U:Instr.fill (λi=>some (i*v.cells.size,v.cells.size)) ((Array.range (1*v.cells.size)).map λi=>z.cells[i%z.cells.size]!) [(0,v)]=some v.cells:=by
  simp only[Instr.fill,Array.size_map,Array.size_range,Nat.one_mul,u0];rw[d0 AM];congr 1;apply tY;intro j;have key:∀(l:Lv_) (st:Nat) (c:Av_),st+l.length<=c.size->∀j,(List.foldl (λcs (p:Value×Nat)=>cs.setIfInBounds (0+p.2) p.1) c (l.zipIdx st))[j]?=if st<=j/\j<st+l.length then l[j - st]? else c[j]? :=by
   intro l
   induction l with
   | nil=>intro st c _ j;simp;omega
   | cons x l Y=>
    intro st c aj j;simp only[wN,u5,tb] at*;rw[Y (st+1) _ AP j];simp only[uo];by_cases Z:j=st;subst Z;rw[d0 AB,d9 AB];rw[vh,ub,sT AB]
    .by_cases e2:st+1<=j/\j<st+1+l.length
     .rw [d9 e2,d9 AB];have:j - st=(j - (st+1))+1:=by omega
      rw[this];simp
     .rw [d0 e2,d0 AB,sN AB]
  have:=key v.cells.toList 0 ((Array.range v.cells.size).map λi=>z.cells[i%z.cells.size]!) AM j;rw[← Array.foldl_toList,Array.toList_zipIdx,this];by_cases hj:j<v.cells.size;simp[hj];simp[hj]
 rw[Jw];simp only[U];exact AH _ _ (JC O k)
end
variable{d1:Tmp}{t1:TypeId}
section
variable {b:Frame}{n:Nat}
theorem Od{ρ:Operand->Value}{d:Option Tmp}{x y:Operand}{ty:TypeId}{p:String}{af:Ae_}{g:On_}:
  execOp ρ ⟨d,.call ⟨.builtin .append,#[x,y],ats⟩,ty,p,af,g⟩=(do pure (Next.value (← Builtin.append_ ats ty #[ρ x,ρ y]))):=by
 simp[execOp,resolve,invoke,builtin,bind,Sem.bind,pure]
theorem ZO{ρ:Operand->Value}{d:Option Tmp}{y:Operand}{t ty:TypeId}{p:String}{af:Ae_}{g:On_}:
  execOp ρ ⟨d,.buildSlice t 1 #[(0,y)],ty,p,af,g⟩=(do pure (Next.value (← Instr.buildSlice t 1 #[(0,ρ y)]))):=by
 simp[execOp]
theorem j3{L:Env}{w:Value}:ev (AG L (some d1) w) (.tmp d1)=some w:=by
 simp[AG,ev,look]
theorem I2(l r:List α)(x y:α):(l++x::r).set l.length y=l++y::r:=by simp
theorem Lo{e t:TypeId}{aj c m:Nat}{a:Option Addr}{i:Nat}{rest:List Nat}{d:Option Tmp}{x y:Operand}{ty:TypeId}{p:String}{af:Ae_}{g:On_}{z:Value}{B1:List (Nat×Obj)}
  (a0:ops[i]?=some ⟨d,.call ⟨.builtin .append,#[x,y],ats⟩,ty,p,af,g⟩) (hw:A9 L ops ⟨d,.call ⟨.builtin .append,#[x,y],ats⟩,ty,p,af,g⟩=some true) (a1:Cd b n ⟨d,.call ⟨.builtin .append,#[x,y],ats⟩,ty,p,af,g⟩=true)
  (a2:ev L x=some (.slice a l c)) (a3:ev L y=some (.slice ax m cx)) (a4:ats[0]?=some t) (a5:ats[1]?=some t1) (ht:P.underlying t=some (.slice e)) (a6:P.underlying t1=some (.slice e)) (a7:BA P e=some sz) (hb:GC P e=some aj) (a8:zeroOf P e=some z) (a9:z.cells.size=sz)
  (bb:0<aj) (be:aj<=64) (b0:0<m) (bg:l+m<=2^40) (bi:∀w∈ys,Dz w=true) (hg:GS e sz a l c blk xs) (bn:Nd E H (B0++blk++B1)) (hs:Jc (mk E H (B0++blk++B1)) (.slice ax m cx) sz ys)
  (h:∀ay Z al,GS e sz ay (l+m) Z al (xs++ys)->Nd E H (B0++al)->JL J Q b n (AG L d (.slice ay (l+m) Z)) ds (Ah ops rest k) cs (mk E H (B0++al))):
  JL J Q b n L ds (Ag ops i rest k) cs (mk E H (B0++blk++B1)):=by
 refine EH a0 hw a1 λρ az=>?_;rw[Od,az x _ a2,az y _ a3];have bo:RG (B0++blk++B1) B0.length e sz a l c xs:=by
  rcases hg with⟨K,Y,ac,am,ag⟩ | ⟨bk,f,K,Y,ac,am,ag⟩;exact .inl ⟨K,Y,ac,ag⟩;refine .inr ⟨bk,f,K,?_,ac,am,ag⟩;subst Y;simp
 refine have hlen:=hg.length;AH _ _ (S7 (pl:=B0.length) a4 a5 a6 ht a7 hb a8 a9 bn bo hs bi bb bg be ?_ ?_ ?_)
 ·
  intro bk f I ai b1 b2 bv ap aq U;rcases hg with⟨K,_⟩ | ⟨O,f0,K,Y,ac,am,ag⟩;rw[K] at ai;cases ai
  .subst Y;have bw:O=bk:=by rw[K] at ai;simpa using ai
   subst bw;have bx:(B0++ [(O,Obj.cells f0 e (0,0))]++B1).set B0.length (O,.cells I e (0,0))=B0++ [(O,.cells I e (0,0))]++B1:=by
    rw[lZ,lZ];exact I2 _ _ _ _
   rw[bx] at U ⊢;have av:Nd E H (B0++ [(O,.cells I e (0,0))]):=Nd.left U;refine GE (B0++ [(O,.cells I e (0,0))]) (λp aw=>?_) U (h a c _ (.inr ⟨O,I,K,V,ap,bv,aq.symm⟩) av);exact tj.1 (tv _ aw)
 .intro _ hm;omega
 ·
  intro r I Z bz ap aq U;have av:Nd E H (B0++ [(r,.cells I e (0,0))]):=Nd.pick U;refine GE (B0++ [(r,.cells I e (0,0))]) (λp aw=>?_) U (h (some ⟨r,0,none⟩) Z _ (.inr ⟨r,I,V,V,ap,bz,aq.symm⟩) av);refine tj.1 ?_;rcases sO.1 aw with q | q;simp[q];exact tG _ q
 where
  Nd.left {E H : LH}{A C : List (Nat × Obj)}(h : Nd E H (A ++ C)) : Nd E H A :=by
    induction A with
    | nil =>trivial
    | cons p A ih =>
      obtain ⟨c, o⟩ :=p
      obtain ⟨h1, h2, h3, h4⟩ :=h
      exact ⟨h1, h2, λq hq =>h3 q (tv _ hq), ih h4⟩
  Nd.pick {E H : LH}{A C F : List (Nat × Obj)}{x : Nat × Obj}(h : Nd E H (A ++ C ++ F ++ [x])) : Nd E H (A ++ [x]) :=by
    induction A with
    | nil =>
      have : ∀ (D : List (Nat × Obj)), Nd E H (D ++ [x]) -> Nd E H [x] :=by
        intro D
        induction D with
        | nil =>exact λh =>h
        | cons p D ih =>obtain ⟨c, o⟩ :=p; exact λh =>ih h.2.2.2
      exact this _ h
    | cons p A ih =>
      obtain ⟨c, o⟩ :=p
      obtain ⟨h1, h2, h3, h4⟩ :=h
      refine ⟨h1, h2, λq hq =>h3 q ?_, ih h4⟩
      rcases sO.1 hq with hq | hq
      . simp[hq]
      . exact tG _ hq
theorem bY{e:TypeId}{v:Value}{A:List (Nat×Obj)}(I:v.cells.size=sz)(K:Nd E H (A++ [(r,.cells v.cells e (0,0))])):
  Jc (mk E H (A++ [(r,.cells v.cells e (0,0))])) (.slice (some ⟨r,0,none⟩) 1 1) sz v.cells.toList:=by
 refine⟨.inl V,by simp[I],jK _,λj w hj=>?_⟩;simp only[uo];refine WK (i:=A.length) K (c:=v.cells) (e:=e) (f:=(0,0)) AM ?_;simpa using hj
theorem aY{e t t2:TypeId}{id c:Nat}{a:Option Addr}{i ac:Nat}{rest:List Nat}{d:Option Tmp}{x y:Operand}{ty K:TypeId}{p O:String}{af U:Ae_}{g g':On_}{z v:Value}
  (aq:ops[i]?=some ⟨some d1,.buildSlice t2 1 #[(0,y)],K,O,U,g'⟩) (hw:A9 L ops ⟨some d1,.buildSlice t2 1 #[(0,y)],K,O,U,g'⟩=some true) (av:Cd b n ⟨some d1,.buildSlice t2 1 #[(0,y)],K,O,U,g'⟩=true)
  (aw:ops[ac]?=some ⟨d,.call ⟨.builtin .append,#[x,.tmp d1],ats⟩,ty,p,af,g⟩) (ay:∀w,A9 (AG L (some d1) w) ops ⟨d,.call ⟨.builtin .append,#[x,.tmp d1],ats⟩,ty,p,af,g⟩=some true) (az:Cd b n ⟨d,.call ⟨.builtin .append,#[x,.tmp d1],ats⟩,ty,p,af,g⟩=true)
  (a0:∀w,ev (AG L (some d1) w) x=some (.slice a l c)) (a1:ev L y=some v) (a2:ats[0]?=some t) (a3:ats[1]?=some t1) (ht:P.underlying t=some (.slice e)) (a4:P.underlying t1=some (.slice e)) (a5:P.underlying t2=some (.slice e)) (ag:BA P e=some sz) (hb:GC P e=some id) (ai:zeroOf P e=some z) (aj:z.cells.size=sz)
  (a6:0<id) (a7:id<=64) (Y:v.cells.size=sz) (bg:0<sz) (bi:sz<=64) (a8:l+1<=2^40) (a9:∀w∈v.cells.toList,Dz w=true) (hg:GS e sz a l c blk xs) (bb:Nd E H (B0++blk))
  (h:∀w al am Z,GS e sz al (l+1) am Z (xs++v.cells.toList)->Nd E H (B0++Z)->JL J Q b n (AG (AG L (some d1) w) d (.slice al (l+1) am)) ds (Ah ops rest k) cs (mk E H (B0++Z))):
  JL J Q b n L ds (.inRegion ops (i::ac::rest)::k) cs (mk E H (B0++blk)):=by
 refine EH aq hw av λρ be=>?_;rw[ZO,be y _ a1];refine AH _ _ (ZL (z:=z) (v:=v) a5 (by rw[Y];exact ag) ai (by rw[Y];exact aj) AB AB bb λr ap=>Lo (B1:=[(r,.cells v.cells e (0,0))]) (m:=1) (cx:=1) (ax:=some ⟨r,0,none⟩) (y:=.tmp d1) (x:=x) (ys:=v.cells.toList) (l:=l) (c:=c) (a:=a) (blk:=blk) (xs:=xs) aw (ay _) az (a0 _) j3 a2 a3 ht a4 ag hb ai aj a6 a7 AB a8 a9 hg ap ?_ (h _));exact bY Y ap
theorem ZZ{e:TypeId}{c:Nat}{a:Option Addr}(hg:GS e sz a l c blk xs)(I:Nd E H (B0++blk))
  (h:∀E',Le E E'->Sd E' sz (.slice a l c) l xs->Nd E' H B0->JL J Q b n L ds todo cs (mk E' H B0)):JL J Q b n L ds todo cs (mk E H (B0++blk)):=by
 rcases hg with⟨rfl,rfl,rfl,rfl,rfl⟩ | ⟨bk,f,rfl,rfl,U,K,rfl⟩;simp only[s6] at I ⊢;exact h E (BQ _) .nil I
 .have Y:(B0++ [(bk,Obj.cells f e (0,0))])[B0.length]?=some (bk,Obj.cells f e (0,0)):=by simp
  refine IT B0.length I Y λE' hle Z O=>?_;have ac:(B0++ [(bk,Obj.cells f e (0,0))]).eraseIdx B0.length=B0:=by rw[uH (jK _)];simp
  rw[ac] at O ⊢;refine h E' hle ⟨_,c,V,K,?_,.inr ⟨bk,0,f,e,(0,0),V,Z,λj w hj=>?_⟩⟩ O;have:l*sz<=c*sz:=tJ _ K;simp[U,uN this];rw[ue] at hj;split at hj;simpa using hj;cases hj
end
abbrev iV(n:Int):Value:=.int .i64 n
variable {c:Nat}
section
variable {x:Operand}{a:Nat}
end
variable{I:TypeInfo}
theorem TT{P:Program}{t:TypeId}(h:P.types[t]?=some I):P.info? t=some I:=by
 have:=(f7.1 h).1;unfold Tables.info?;rw[d9 this,h]
theorem Bg{P:Program}{t:TypeId}(h:P.types[t]?=some I):BA P t=some I.size:=by simp[BA,TT h]
theorem B3{P:Program}{t:TypeId}(h:P.types[t]?=some I):GC P t=some I.bytes:=by simp[GC,TT h]
theorem Es{P:Program}{t:TypeId}(h:P.types[t]?=some I):zeroOf P t=I.zero:=by simp[zeroOf,TT h]
def j8:TypeDesc->Bool | .struct _=>true | .array _ _=>true | _=>false
theorem Dv{P:Program}{t:TypeId}{d:TypeDesc}(h:P.underlying t=some d):DD P t=some (j8 d):=by
 unfold DD;rw[h];cases d<;>rfl
theorem A8{P:Program}{f:FuncId}(h:P.funcs[f]?=some fn)(hb:(!(fn.name== "runtime.NumGoroutine")&&fn.body.isSome)=true):ET P f=true:=by
 simp only[ET,h];exact hb
def X8(a:Nat):Nat->List Nat
 | 0=>[]
 | n+1=>X8 a n++(if a.testBit n then [n] else [])
abbrev R1(a:Nat):List Nat:=X8 a 16
end Pal
namespace Pal
open Go Go.Conc
def At(E:LH)(bk o:Nat)(ws:Lv_):Prop:=∃f e fr,E bk=some (.cells f e fr)/\∀j w,ws[j]?=some w->f[o+j]?=some w
theorem At.Aj{E E':LH}{bk o:Nat}{ws:Lv_}(h:At E bk o ws)(hle:Le E E'):At E' bk o ws:=let ⟨f,e,fr,I,K⟩:=h;⟨f,e,fr,hle _ _ I,K⟩
variable{j:Nat}{w:Value}
theorem At.cell{E H:LH}{B:List (Nat×Obj)}{bk o:Nat}{ws:Lv_}(h:At E bk o ws)(hj:ws[j]?=some w):(mk E H B).cell? ⟨bk,o+j,none⟩=some w:=
 let ⟨_,_,_,I,K⟩:=h;cA I (K j w hj)
theorem At.cells{E H:LH}{B:List (Nat×Obj)}{bk o:Nat}{ws:Lv_}(h:At E bk o ws):∀j v,ws[j]?=some v->(mk E H B).cell? (Addr.add ⟨bk,o,none⟩ j)=some v:=λj v hj=>by
 rw[EO rfl];exact h.cell hj
variable {P:Program}{J:Judge P}{Q:Gs_}{ds:Ld_}{ops:Ao_}{k:Li_}{cs:Lf_}{L:Env}{s:St}{E E' H:LH}{B B0:List (Nat×Obj)}
variable {d:Option Tmp}{y:Operand}{t u ty e:TypeId}{p:String}{af:Ae_}{g:On_}{rest:List Nat}{kd:IntKind}
section
variable {b:Frame}{n:Nat}
variable {x:Operand}{v:Value}{i:Nat}
theorem JL.put(h:look L i=some v)(K:JL J Q b n (AG L (some i) v) ds k cs s):JL J Q b n L ds k cs s:=λT I=>
 K T ⟨I.size,λt w e=>by
  simp only[AG,look] at e
  split at e;rename_i O;subst O;cases e;exact I.at_ _ _ h
  .exact I.at_ _ _ e⟩
theorem Ok{q:Prop} [Decidable q] (h:look L i=some (.bool (decide q)))(K:q->JL J Q b n (AG L (some i) (.bool true)) ds k cs s)(O:¬q->JL J Q b n (AG L (some i) (.bool false)) ds k cs s):JL J Q b n L ds k cs s:=by
 by_cases I:q;refine JL.put (i:=i) (v:=.bool true) ?_ (K I);rw[h,th I];refine JL.put (i:=i) (v:=.bool false) ?_ (O I);rw[h,tA I]
theorem Me{c:Bool}(h:look L i=some (.bool c))(I:c=true->JL J Q b n (AG L (some i) (.bool true)) ds k cs s)(K:c=false->JL J Q b n (AG L (some i) (.bool false)) ds k cs s):JL J Q b n L ds k cs s:=by
 cases c;exact JL.put h (K V);exact JL.put h (I V)
end
theorem Gm{P:Program}{s:St}{ρ:Operand->Value}{d:Option Tmp}{t ty ft:TypeId}{x:Operand}{p:String}{af:Ae_}{g:On_}{a:Addr}{K:Array Field}{i:Nat}{I:Field}(sz off:Nat)(ht:P.underlying t=some (.struct K))(O:BA P ft=some (sz+1))(hi:K[i]?=some I)(U:I.type=ft)(Y:I.offset=off)(Z:ρ x=.pointer (some a)):
  Yl P ⟨d,.fieldAddr t x i,ty,p,af,g⟩ ρ s (.pointer (some (a.add off))):=by
 subst U Y;exact B4 ht hi O Z
section
variable {b:Frame}{n:Nat}
variable {x:Operand}{v:Value}{i:Nat}
theorem At.HU{bk o:Nat}{ws:Lv_}(h:At E bk o ws)(hs:∀x o,E x=some o->s.E x=some o)(hj:ws[j]?=some w):s.cell? ⟨bk,o+j,none⟩=some w:=by
 obtain⟨f,e,fr,I,K⟩:=h;unfold St.cell? St.get;rw[hs _ _ I];exact K j w hj
abbrev Eh:=@At.HU
theorem At.jf{bk o:Nat}{ws:Lv_}(h:At E bk o ws)(hs:∀x o,E x=some o->s.E x=some o):∀j v,ws[j]?=some v->s.cell? (Addr.add ⟨bk,o,none⟩ j)=some v:=λj v hj=>by
 rw[EO rfl];exact h.HU hs hj
end
variable {listed:Array Bool}
section
variable {b:Frame}{n m fuel:Nat}
variable {x:Operand}{v:Value}{i:Nat}
end
variable {D:Nat->Bool}
section
variable {b:Frame}{n m fuel i:Nat}{v:Value}
theorem AU.put(h:look L i=some v)(K:AU J Q b n ds ops k cs m D fuel listed (AG L (some i) v) s):AU J Q b n ds ops k cs m D fuel listed L s:=λT I=>
 K T ⟨I.size,λt w e=>by
  simp only[AG,look] at e
  split at e;rename_i O;subst O;cases e;exact I.at_ _ _ h
  .exact I.at_ _ _ e⟩
theorem GM{q:Prop} [Decidable q] (h:look L i=some (.bool (decide q)))(K:q->AU J Q b n ds ops k cs m D fuel listed (AG L (some i) (.bool true)) s)(O:¬q->AU J Q b n ds ops k cs m D fuel listed (AG L (some i) (.bool false)) s):AU J Q b n ds ops k cs m D fuel listed L s:=by
 by_cases I:q;refine AU.put (i:=i) (v:=.bool true) ?_ (K I);rw[h,th I];refine AU.put (i:=i) (v:=.bool false) ?_ (O I);rw[h,tA I]
theorem VR{c:Bool}(h:look L i=some (.bool c))(I:c=true->AU J Q b n ds ops k cs m D fuel listed (AG L (some i) (.bool true)) s)(K:c=false->AU J Q b n ds ops k cs m D fuel listed (AG L (some i) (.bool false)) s):AU J Q b n ds ops k cs m D fuel listed L s:=by
 cases c;exact AU.put h (K V);exact AU.put h (I V)
end
structure Rp (α:Type) where
 n:Nat
 r:LH->Lv_->α->Prop
 Aj:∀{E E':LH}{ws:Lv_}{x:α},Le E E'->r E ws x->r E' ws x
 len:∀{E:LH}{ws:Lv_}{x:α},r E ws x->ws.length=n
 one:∀{E:LH}{ws:Lv_}{x:α},r E ws x->∀w∈ws,Dz w=true
def rK(kd:IntKind):Rp Int:=⟨1,λ_ ws x=>ws=[.int kd x],λ_ h=>h,λh=>by subst h;rfl,λh w hw=>by subst h;simp at hw;subst hw;rfl⟩
abbrev rI:Rp Int:=rK .i64
def rN(kd:IntKind):Rp Nat:=⟨1,λ_ ws x=>ws=[.int kd ((x:Nat):Int)],λ_ h=>h,λh=>by subst h;rfl,λh w hw=>by subst h;simp at hw;subst hw;rfl⟩
def rB:Rp Bool:=⟨1,λ_ ws x=>ws=[.bool x],λ_ h=>h,λh=>by subst h;rfl,λh w hw=>by subst h;simp at hw;subst hw;rfl⟩
def rP{α β:Type}(p:Rp α)(q:Rp β):Rp (α×β):=⟨p.n+q.n,λE ws x=>∃O U,ws=O++U/\p.r E O x.1/\q.r E U x.2,
 λhle ⟨a,b,h,I,K⟩=>⟨a,b,h,p.Aj hle I,q.Aj hle K⟩,λ⟨a,b,h,I,K⟩=>by subst h;rw[sR,p.len I,q.len K],
 λ⟨a,b,h,I,K⟩ w hw=>by
  subst h
  rcases sO.1 hw with hw | hw
  .exact p.one I w hw
  .exact q.one K w hw⟩
def Aq{α:Type}(p:Rp α)(E:LH)(a:Option Addr)(c:Nat)(xs:List α):Prop:=
 xs.length<=c/\((xs=[]/\∀ad:Addr,a=some ad->ad.spot=none∨c=0)∨∃bk off,a=some ⟨bk,off,none⟩/\∀(i:Nat) x,xs[i]?=some x->∃ws,p.r E ws x/\At E bk (off+i*p.n) ws)
variable{α:Type}{c:Nat}
theorem Aq.Aj{p:Rp α}{E E':LH}{a:Option Addr}{xs:List α}(h:Aq p E a c xs)(hle:Le E E'):Aq p E' a c xs:=
 ⟨h.1,h.2.imp id λ⟨bk,off,I,K⟩=>⟨bk,off,I,λi x O=>let ⟨ws,U,Y⟩:=K i x O;⟨ws,p.Aj hle U,Y.Aj hle⟩⟩⟩
theorem Aq.nil{p:Rp α}{E:LH}:Aq p E none c []:=⟨tz _,.inl ⟨V,λ_ h=>by cases h⟩⟩
abbrev Ba:=@Aq.nil
def rL{α:Type}(p:Rp α):Rp (List α):=⟨1,λE ws xs=>∃a c,ws=[.slice a xs.length c]/\Aq p E a c xs,
 λhle ⟨a,c,h,I⟩=>⟨a,c,h,I.Aj hle⟩,λ⟨a,c,h,I⟩=>by subst h;rfl,λ⟨a,c,h,I⟩ w hw=>by subst h;simp at hw;subst hw;rfl⟩
def rV:Rp Value:=⟨1,λ_ ws x=>ws=[x]/\Dz x=true,λ_ h=>h,λh=>by rw[h.1];rfl,λh w hw=>by rw[h.1] at hw;simp at hw;subst hw;exact h.2⟩
def rA{α:Type}(k:Nat)(p:Rp α):Rp (List α):=⟨k*p.n,λE ws xs=>xs.length=k/\∃wss:List (Lv_),ws=wss.flatten/\wss.length=k/\∀(i:Nat) x us,xs[i]?=some x->wss[i]?=some us->p.r E us x,
 λhle ⟨O,wss,h,I,K⟩=>⟨O,wss,h,I,λi x us a b=>p.Aj hle (K i x us a b)⟩,
 λ{E ws xs} ⟨O,wss,h,I,K⟩=>by
  subst h
  have:∀(wss:List (Lv_)) (xs:List α),xs.length=wss.length->(∀(i:Nat) x us,xs[i]?=some x->wss[i]?=some us->p.r E us x)->wss.flatten.length=wss.length*p.n:=by
   intro wss
   induction wss with
   | nil=>intro xs _ _;simp
   | cons us wss Y=>
    intro xs U h
    cases xs with
    | nil=>simp at U
    | cons x xs=>
     rw[tk,sR,p.len (h 0 x us rfl rfl),Y xs (by simpa using U) (λi y u a b=>h (i+1) y u a b),tb,tZ,wP]
  rw[this wss xs AB K,I],
 λ{E ws xs} ⟨O,wss,h,I,K⟩ w hw=>by
  subst h
  let⟨us,Z,hw⟩:=uW.1 hw
  let⟨i,hi⟩:=tj.1 Z
  have ac:i<xs.length:=by rw[O,← I];exact(d7.1 hi).1
  exact p.one (K i _ us (bZ ac) hi) w hw⟩
def ix{α:Type}(xs:List α)(i:Int):Option α:=if 0<=i then xs[i.toNat]? else none
theorem Ge{xs:List α}{i:Int}{x:α}(h:ix xs i=some x):∃m:Nat,i=m/\xs[m]?=some x:=by
 unfold ix at h;split at h;exact⟨i.toNat,AB,h⟩;cases h
def Ax(x:Int):Option Int:=if -9223372036854775808<=x/\x<=9223372036854775807 then some x else none
theorem Na{x y:Int}(h:Ax x=some y):y=x/\ -9223372036854775808<=x/\x<=9223372036854775807:=by
 unfold Ax at h;split at h;rename_i hb;exact⟨(f8 h).symm,hb⟩;cases h
variable{β:Type}
theorem bind_some{o:Option α}{f:α->Option β}{r:β}(h:o.bind f=some r):∃x,o=some x/\f x=some r:=by
 cases o with
 | none=>cases h
 | some x=>exact⟨x,rfl,h⟩
inductive Bn (S A:Type) where
 | more (s:S)
 | done (a:A)
def iter{S A:Type}(body:S->Option (Bn S A)):Nat->S->Option A
 | 0,_=>none
 | f+1,s=>match body s with
  | none=>none
  | some (.done a)=>some a
  | some (.more s')=>iter body f s'
variable{A:Type}
theorem Wi{S:Type}{body:S->Option (Bn S A)}{f:Nat}{s:S}{a:A}(h:iter body (f+1) s=some a):∃st,body s=some st:=by
 simp only[iter] at h;cases hb:body s with
 | none=>rw[hb] at h;cases h
 | some st=>exact⟨st,rfl⟩
theorem Wj{S:Type}{body:S->Option (Bn S A)}{f:Nat}{s:S}{a I:A}(h:iter body (f+1) s=some a)(hb:body s=some (.done I)):I=a:=by
 simp only[iter,hb] at h;exact f8 h
theorem V9{S:Type}{body:S->Option (Bn S A)}{f:Nat}{s s':S}{a:A}(h:iter body (f+1) s=some a)(hb:body s=some (.more s')):iter body f s'=some a:=by
 simp only[iter,hb] at h;exact h
abbrev Seg:=List (Nat×Obj)
def Ao(E H:LH)(S:List Seg):St:=mk E H S.flatten
def Aw(E H:LH)(S:List Seg):Prop:=Nd E H S.flatten
theorem Nd.mem{E H:LH}:∀{B:List (Nat×Obj)}{b:Nat}{o:Obj},Nd E H B->(b,o)∈B->∃i:Nat,B[i]?=some (b,o):=λ_ h=>tj.1 h
theorem Nd.iff{E H:LH}:∀{B:List (Nat×Obj)},Nd E H B↔(B.map (·.1)).Nodup/\∀p∈B,E p.1=none/\H p.1=none
 | []=>by simp[Nd]
 | (b,o)::B=>by
  simp only[Nd,tX,vw,ja,forall_eq_or_imp,Nd.iff (B:=B),tn,not_exists,not_and]
  constructor;rintro⟨I,K,O,U,Y⟩;exact⟨⟨O,U⟩,⟨I,K⟩,Y⟩;rintro⟨⟨O,U⟩,⟨I,K⟩,Y⟩;exact⟨I,K,O,U,Y⟩
abbrev Ea:=@Nd.iff
variable{B':List (Nat×Obj)}
theorem Nd.perm{E H:LH}{B:List (Nat×Obj)}(h:Nd E H B)(I:B.Perm B'):Nd E H B':=by
 rw[Ea] at h ⊢;exact⟨(I.map _).nodup_iff.1 h.1,λp K=>h.2 p (I.mem_iff.2 K)⟩
abbrev Cj:=@Nd.perm
theorem Oh{E H:LH}{B:List (Nat×Obj)}(h:Nd E H B)(I:B.Perm B'):Bu B H=Bu B' H:=by
 funext x;by_cases K:∃p∈B,p.1=x;obtain⟨⟨b,o⟩,hm,rfl⟩:=K;let⟨i,hi⟩:=h.mem hm;let⟨j,hj⟩:=(h.perm I).mem (I.mem_iff.1 hm);rw[KU h hi,KU (h.perm I) hj]
 .have key:∀{C:List (Nat×Obj)},(∀p∈C,p.1≠x)->Bu C H x=H x:=by
   intro C
   induction C with
   | nil=>intro _;rfl
   | cons p C O=>
    intro hC;obtain⟨c,u⟩:=p;have U:x≠c:=λe=>hC (c,u) AM e.symm;simp only[Bu,d0 U];exact O λp I=>hC p (kW _ I)
  rw[key λp I e=>K ⟨p,I,e⟩,key λp Y e=>K ⟨p,I.mem_iff.2 Y,e⟩]
theorem Gk{E H:LH}{B:List (Nat×Obj)}(h:Nd E H B)(I:B.Perm B'):mk E H B=mk E H B':=by unfold mk;rw[Oh h I]
variable{seg seg':Seg}
theorem CB{S:List Seg}(h:S[j]?=some seg):S.flatten.Perm ((S.set j []).flatten++seg)/\(S.set j seg').flatten.Perm ((S.set j []).flatten++seg'):=by
 induction S generalizing j with
 | nil=>simp at h
 | cons x S I=>
  cases j with
  | zero=>
   simp at h;subst h;simp only[uZ,tk,tB];exact⟨lF,lF⟩
  | succ j=>
   simp at h;let⟨K,O⟩:=I h;simp only[vQ,tk,lZ];exact⟨K.append_left x,O.append_left x⟩
theorem HS{E H:LH}{S:List Seg}(I:Aw E H S)(h:S[j]?=some seg):Ao E H S=mk E H ((S.set j []).flatten++seg)/\Nd E H ((S.set j []).flatten++seg):=
 ⟨Gk I (CB (seg':=seg) h).1,Cj I (CB (seg':=seg) h).1⟩
theorem Kq{E H:LH}{S:List Seg}(h:S[j]?=some seg)(I:Nd E H ((S.set j []).flatten++seg')):mk E H ((S.set j []).flatten++seg')=Ao E H (S.set j seg')/\Aw E H (S.set j seg'):=
 ⟨Gk I (CB h).2.symm,Cj I (CB h).2.symm⟩
theorem Gx(S:List Seg)(seg:Seg):(S++ [seg]).flatten=S.flatten++seg:=by simp
theorem Gb{E H:LH}{S:List Seg}(I:Nd E H (S.flatten++seg)):mk E H (S.flatten++seg)=Ao E H (S++ [seg])/\Aw E H (S++ [seg]):=by
 unfold Ao Aw;rw[Gx];exact⟨V,I⟩
theorem Ew{E H:LH}{S:List Seg}{i bk:Nat}{o:Obj}(I:Aw E H S)(hj:S[j]?=some seg)(hi:seg[i]?=some (bk,o)):(Ao E H S).get bk=some o:=by
 have hm:(bk,o)∈S.flatten:=uW.2 ⟨seg,sU hj,sU hi⟩;let⟨O,K⟩:=I.mem hm;exact SH I K
variable{off:Nat}
theorem Cc{E H:LH}{S:List Seg}{bk:Nat}{c:Av_}{e:TypeId}{f:Nat×Nat}{v:Value}(I:Aw E H S)(hj:S[j]?=some ((bk,.cells c e f)::seg))(K:c[off]?=some v):(Ao E H S).cell? ⟨bk,off,none⟩=some v:=by
 unfold St.cell?;rw[Ew (i:=0) I hj rfl];exact K
theorem aW{E H:LH}{S:List Seg}{bk:Nat}{c:Av_}{e:TypeId}{f:Nat×Nat}{vs:Lv_}(I:Aw E H S)(hj:S[j]?=some ((bk,.cells c e f)::seg))(K:∀i v,vs[i]?=some v->c[off+i]?=some v):∀i v,vs[i]?=some v->(Ao E H S).cell? (Addr.add ⟨bk,off,none⟩ i)=some v:=λi v hi=>by
 rw[EO rfl];exact Cc I hj (K i v hi)
def OL{α:Type}(e:TypeId)(p:Rp α)(E:LH)(a:Option Addr)(c:Nat)(seg:Seg)(xs:List α):Prop:=
 ∃wss:List (Lv_),GS e p.n a xs.length c seg wss.flatten/\wss.length=xs.length/\∀(i:Nat) x ws,xs[i]?=some x->wss[i]?=some ws->p.r E ws x
theorem OL.Aj{e:TypeId}{p:Rp α}{E E':LH}{a:Option Addr}{xs:List α}(h:OL e p E a c seg xs)(hle:Le E E'):OL e p E' a c seg xs:=
 let ⟨wss,I,K,O⟩:=h;⟨wss,I,K,λi x ws U hw=>p.Aj hle (O i x ws U hw)⟩
theorem OL.nil{e:TypeId}{p:Rp α}{E:LH}:OL e p E none 0 [] []:=⟨[],GS.nil,V,λi x ws I=>by simp at I⟩
abbrev Cv:=@OL.nil
variable{wss:List (Lv_)}
theorem JF{p:Rp α}{E:LH}{xs:List α}(I:wss.length=xs.length)(h:∀(i:Nat) x ws,xs[i]?=some x->wss[i]?=some ws->p.r E ws x):∀ws∈wss,ws.length=p.n:=λws hw=>by
 let⟨i,hi⟩:=tj.1 hw
 have K:i<xs.length:=by rw[← I];exact(d7.1 hi).1
 exact p.len (h i _ ws (bZ K) hi)
theorem Mb{α:Type}{n:Nat}:∀{wss:List (List α)},(∀ws∈wss,ws.length=n)->∀{i:Nat}{ws:List α},wss[i]?=some ws->∀j w,ws[j]?=some w->wss.flatten[i*n+j]?=some w
 | [],_,_,_,h,_,_,_=>by simp at h
 | us::wss,I,0,ws,h,j,w,hj=>by
  simp at h;subst h
  have:j<us.length:=(d7.1 hj).1
  simp only[tk,u0,uo]
  rw[sX this];exact hj
 | us::wss,I,i+1,ws,h,j,w,hj=>by
  simp at h
  have hu:us.length=n:=I us AM
  simp only[tk]
  rw[sQ (by rw[hu,tZ];omega)]
  have e:(i+1)*n+j - us.length=i*n+j:=by rw[hu,tZ];omega
  rw[e];exact Mb (λws hw=>I ws (kW _ hw)) h j w hj
variable {ρ:Operand->Value}{z:Operand}{kd':IntKind}{m':Int}
variable{r:Int}{ps:Array (Nat×Operand)}{I:Array Field}
section
variable {x:Operand}{v:Value}{m:Int}{a b:Nat}
theorem NX{a:Nat}:IntKind.u64.wrap (a:Int)=((a%2^64:Nat):Int):=by
 simp only[IntKind.wrap,IntKind.bits,IntKind.signed];simp
theorem gj(I:ρ x=.int .u64 (a:Int))(K:ρ y=.int .u64 (b:Int)):Yl P ⟨d,.binOp .add t x y u,ty,p,af,g⟩ ρ s (.int .u64 (((a+b)%2^64:Nat):Int)):=by
 have h:=Yl.add (P:=P) (s:=s) (d:=d) (t:=t) (u:=u) (ty:=ty) (p:=p) (af:=af) (g:=g) I K;rw[show((a:Int)+(b:Int))=((a+b:Nat):Int) by omega,NX] at h;exact h
theorem QR(I:ρ x=.int .u64 (a:Int))(K:ρ y=.int .u64 (b:Int)):Yl P ⟨d,.binOp .mul t x y u,ty,p,af,g⟩ ρ s (.int .u64 (((a*b)%2^64:Nat):Int)):=by
 have h:=Yl.mul (P:=P) (s:=s) (d:=d) (t:=t) (u:=u) (ty:=ty) (p:=p) (af:=af) (g:=g) I K;rw[show((a:Int)*(b:Int))=((a*b:Nat):Int) by rw[wY],NX] at h;exact h
theorem Mj(I:ρ x=.int .u64 (a:Int))(K:ρ y=.int .u64 (b:Int)):Yl P ⟨d,.binOp .xor t x y u,ty,p,af,g⟩ ρ s (.int .u64 (((a ^^^ b)%2^64:Nat):Int)):=by
 have h:=Yl.xor (P:=P) (s:=s) (d:=d) (t:=t) (u:=u) (ty:=ty) (p:=p) (af:=af) (g:=g) I K;have e:(BitVec.ofInt IntKind.u64.bits (a:Int) ^^^ BitVec.ofInt IntKind.u64.bits (b:Int)).toNat=(a ^^^ b)%2^64:=by
  rw[Nat.xor_mod_two_pow];rw[vE,vE];show(BitVec.ofNat 64 a ^^^ BitVec.ofNat 64 b).toNat=_;rw[BitVec.toNat_xor,vV,vV]
 rw[e,NX,Nat.mod_mod] at h;exact h
theorem iE(I:ρ x=.int .u64 (a:Int))(K:ρ y=.int .u64 (b:Int))(O:b≠0):Yl P ⟨d,.binOp .rem t x y u,ty,p,af,g⟩ ρ s (.int .u64 ((a%b:Nat):Int)):=by
 have h:=Yl.rem (P:=P) (s:=s) (d:=d) (t:=t) (u:=u) (ty:=ty) (p:=p) (af:=af) (g:=g) I K AB;rw[show(a:Int).tmod (b:Int)=((a%b:Nat):Int) from rfl] at h;exact h
theorem Mi(c:Nat)(I:ρ x=.int .u64 (a:Int))(K:ρ y=.int .u64 (c:Int))(O:c<=64):Yl P ⟨d,.binOp .shr t x y u,ty,p,af,g⟩ ρ s (.int .u64 ((a>>>c:Nat):Int)):=by
 have h:=E7 (P:=P) (s:=s) (d:=d) (t:=t) (u:=u) (ty:=ty) (p:=p) (af:=af) (g:=g) I K AB;have e:min (c:Int).toNat IntKind.u64.bits=c:=by simp[IntKind.bits];omega
 rw[e,u9 _ (Int.pow_nonneg AD)] at h;have e2:(a:Int)/2^c=((a>>>c:Nat):Int):=by rw[vf,Int.natCast_ediv];rfl
 rw[e2] at h;exact h
def EG(m:Int):Nat:=(m%2^64).toNat
def LV(a:Nat):Int:=IntKind.i64.wrap (a:Int)
theorem Yl.EG(ht:P.underlying t=some (.int .i64))(hu:P.underlying u=some (.int .u64))(I:ρ x=iV m):Yl P ⟨d,.convert t u x,ty,p,af,g⟩ ρ s (.int .u64 ((EG m:Nat):Int)):=by
 have h:=Gy (P:=P) (s:=s) (d:=d) (ty:=ty) (p:=p) (af:=af) (g:=g) ht hu I
 have e:IntKind.u64.wrap m=((Pal.EG m:Nat):Int):=by
  unfold Pal.EG;simp only[IntKind.wrap,IntKind.bits,IntKind.signed];simp;omega
 rw[e] at h;exact h
abbrev G4:=@Yl.EG
theorem YF(ht:P.underlying t=some (.int .u64))(hu:P.underlying u=some (.int .i64))(I:ρ x=.int .u64 (a:Int)):Yl P ⟨d,.convert t u x,ty,p,af,g⟩ ρ s (iV (LV a)):=
 Gy (P:=P) (s:=s) (d:=d) (ty:=ty) (p:=p) (af:=af) (g:=g) ht hu I
theorem El(I:ρ x=iV m)(K:ρ y=iV m')(h:Ax (m+m')=some r):Yl P ⟨d,.binOp .add t x y u,ty,p,af,g⟩ ρ s (iV r):=by
 obtain⟨rfl,hb⟩:=Na h;exact fA I K hb
theorem Ep(I:ρ x=iV m)(K:ρ y=iV m')(h:Ax (m - m')=some r):Yl P ⟨d,.binOp .sub t x y u,ty,p,af,g⟩ ρ s (iV r):=by
 obtain⟨rfl,hb⟩:=Na h;exact fL I K hb
theorem LA(I:ρ x=iV m)(K:ρ y=iV m')(h:Ax (m*m')=some r):Yl P ⟨d,.binOp .mul t x y u,ty,p,af,g⟩ ρ s (iV r):=by
 obtain⟨rfl,hb⟩:=Na h;exact gd I K hb
theorem Ix(I:ρ x=iV m)(h:Ax (-m)=some r):Yl P ⟨d,.unOp .neg t x,ty,p,af,g⟩ ρ s (iV r):=by
 obtain⟨rfl,hb⟩:=Na h;exact gi I hb
theorem I3(I:ρ x=.int kd m)(K:ρ y=.int kd m'):Yl P ⟨d,.binOp .neq t x y u,ty,p,af,g⟩ ρ s (.bool (decide (m≠m'))):=by
 have h:=Dj (P:=P) (s:=s) (d:=d) (t:=t) (u:=u) (ty:=ty) (p:=p) (af:=af) (g:=g) I K;simpa using h
theorem LB{q:Prop} [Decidable q] (I:ρ x=.bool (decide q)):Yl P ⟨d,.unOp .not t x,ty,p,af,g⟩ ρ s (.bool (decide (¬q))):=by
 have h:=CN (P:=P) (s:=s) (d:=d) (t:=t) (ty:=ty) (p:=p) (af:=af) (g:=g) I;simpa using h
theorem Af{p:Prop}(h:p:=by intro ρ h;intros;first | exact LB (h _ _ rfl) | exact Mj (h _ _ rfl) (h _ _ rfl) | exact On (h _ _ rfl) (h _ _ rfl) | exact QR (h _ _ rfl) (h _ _ rfl)):p:=h
theorem Ta:execOp ρ ⟨d,.build t ps,ty,p,af,g⟩=(do pure (Next.value (← Instr.build t (ps.map λ(j,x)=>(j,ρ x))))):=by
 simp only[execOp]
theorem Yl.build{z:Value}{vs:List (Nat×Value)}{places:Array (Nat×Nat)}{cells:Av_}(U:zeroOf P t=some z)(ht:P.underlying t=some (.struct I))(Y:I.toList.mapM (λf=>(BA P f.type).map λn=>(f.offset,n))=some places.toList)
  (Z:ps.toList.map (λ(j,x)=>(j,ρ x))=vs) (ac:Instr.fill (places[·]?) z.cells vs=some cells):Yl P ⟨d,.build t ps,ty,p,af,g⟩ ρ s (.agg cells):=by
 refine G7 Ta ?_;unfold Instr.build;refine AH (x:=zeroValue t) _ (Is U (AH _ _ (C4 ht ?_)));simp only;have key:∀(l:List Field) (acc:List (Nat×Nat)) {Q:List (Nat×Nat)->St->Prop}{X:Halt->St->Prop}(ps:List (Nat×Nat)),l.mapM (λf=>(BA P f.type).map λn=>(f.offset,n))=some ps->Q (acc.reverse++ps) s->lp P (List.mapM.loop (m:=Sem) (λf=>do pure (f.offset,← Go.sizeOf f.type)) l acc) s Q X:=by
  intro l
  induction l with
  | nil=>
   intro acc Q X ps h k;simp at h;subst h;simp only[s6] at k;exact k
  | cons f l ag=>
   intro acc Q X ps h k;simp only[wC,bind] at h;cases K:BA P f.type with
   | none=>rw[K] at h;simp at h
   | some n=>
    rw[K] at h;simp only[uf,Option.bind_some] at h;let⟨ai,aj,O⟩:=bind_some h;simp at O;subst O;have:=ag ((f.offset,n)::acc) (Q:=Q) (X:=X) ai aj (by simpa using k);simp only[List.mapM.loop];exact AH _ _ (AH (x:=Go.sizeOf f.type) _ (F4 K this))
 have e:(ps.map λ(j,x)=>(j,ρ x)).toList=vs:=by rw[← Z,we]
 refine AH _ _ ?_;rw[uM];refine AH (x:=List.mapM.loop (m:=Sem) (λf=>do pure (f.offset,← Go.sizeOf f.type)) I.toList []) (f:=λr=>pure r.toArray) (key I.toList [] places.toList Y ?_)
 simp only[List.reverse_nil,tB,lp,pure];rw[e,ac];exact⟨V,V⟩
end
variable {S:List Seg}
variable{todo:Li_}{ag sz:Nat}{d1:Tmp}{ats:Array TypeId}{g':On_}{fn:Func}{R:Value->LH->Seg->Prop}{args:Array Operand}{S':List Seg}
section
variable {b:Frame}{n:Nat}
variable {x:Operand}{v:Value}{i:Nat}
theorem JS.box(K:ops[i]?=some ⟨d,.box e x,ty,p,af,g⟩)(hw:A9 L ops ⟨d,.box e x,ty,p,af,g⟩=some true)(O:Cd b n ⟨d,.box e x,ty,p,af,g⟩=true)(U:Aw E H S)(Y:ev L x=some v)
  (h:∀r,Aw E H (S++ [[(r,.cells v.cells e (0,0))]])->JL J Q b n (AG L d (.pointer (some ⟨r,0,none⟩))) ds (Ah ops rest k) cs (Ao E H (S++ [[(r,.cells v.cells e (0,0))]]))):
  JL J Q b n L ds (Ag ops i rest k) cs (Ao E H S):=
 JL.box K hw O U Y λr I=>by rw[(Gb I).1];exact h r (Gb I).2
theorem JS.alloc{z:Value}(K:ops[i]?=some ⟨d,.alloc e,ty,p,af,g⟩)(hw:A9 L ops ⟨d,.alloc e,ty,p,af,g⟩=some true)(O:Cd b n ⟨d,.alloc e,ty,p,af,g⟩=true)(U:Aw E H S)(Y:zeroOf P e=some z)
  (h:∀r,Aw E H (S++ [[(r,.cells z.cells e (0,0))]])->JL J Q b n (AG L d (.pointer (some ⟨r,0,none⟩))) ds (Ah ops rest k) cs (Ao E H (S++ [[(r,.cells z.cells e (0,0))]]))):
  JL J Q b n L ds (Ag ops i rest k) cs (Ao E H S):=
 JL.alloc K hw O U Y λr I=>by rw[(Gb I).1];exact h r (Gb I).2
theorem JS.store{bk:Nat}{c:Av_}(j:Nat)(O:ops[i]?=some ⟨d,.store t x y,ty,p,af,g⟩)(hw:A9 L ops ⟨d,.store t x y,ty,p,af,g⟩=some true)(U:Cd b n ⟨d,.store t x y,ty,p,af,g⟩=true)(Y:Aw E H S)
  (Z:ev L x=some (.pointer (some ⟨bk,off,none⟩))) (ac:ev L y=some v) (ag:BA P t=some v.cells.size) (ai:∀u∈v.cells.toList,Dz u=true) (I:S[j]?=some [(bk,.cells c e (0,0))]) (hle:off+v.cells.size<=c.size)
  (h:Aw E H (S.set j [(bk,.cells (Be c off v.cells.toList) e (0,0))])->JL J Q b n (AG L d undef) ds (Ah ops rest k) cs (Ao E H (S.set j [(bk,.cells (Be c off v.cells.toList) e (0,0))]))):
  JL J Q b n L ds (Ag ops i rest k) cs (Ao E H S):=by
 let⟨aj,al⟩:=HS Y I;rw[aj];refine JL.store (S.set j []).flatten.length O hw U al Z ac ag ai (c:=c) (e:=e) AM hle λK=>?_;have am:((S.set j []).flatten++ [(bk,Obj.cells c e (0,0))]).set (S.set j []).flatten.length (bk,.cells (Be c off v.cells.toList) e (0,0))=(S.set j []).flatten++ [(bk,.cells (Be c off v.cells.toList) e (0,0))]:=I2 _ _ _ _;rw[am] at K ⊢;let⟨ap,aq⟩:=Kq I K;rw[ap];exact h aq
abbrev FI:=@JS.store
theorem JS.drop(j:Nat)(U:Aw E H S)(I:S[j]?=some seg)(h:Aw E H (S.set j [])->JL J Q b n L ds todo cs (Ao E H (S.set j []))):JL J Q b n L ds todo cs (Ao E H S):=by
 let⟨Y,K⟩:=HS U I;rw[Y];have Z:Nd E H ((S.set j []).flatten++ []):=by rw[s6];exact Lo.Nd.left K
 refine let⟨O,ac⟩:=Kq (seg':=[]) I Z;GE (S.set j []).flatten (λq ag=>tj.1 (tv _ ag)) K ?_;have ai:(S.set j []).flatten++ []=(S.set j []).flatten:=s6 _;rw[ai] at O;rw[O];exact h ac
abbrev BO:=@JS.drop
theorem Ff{bk:Nat}{c:Av_}{f:Nat×Nat}(j:Nat)(K:Aw E H S)(O:S[j]?=some [(bk,.cells c e f)])
  (h:∀E',Le E E'->At E' bk 0 c.toList->Aw E' H (S.set j [])->JL J Q b n L ds todo cs (Ao E' H (S.set j []))):JL J Q b n L ds todo cs (Ao E H S):=by
 let⟨U,Y⟩:=HS K O;rw[U];have Z:((S.set j []).flatten++ [(bk,Obj.cells c e f)])[(S.set j []).flatten.length]?=some (bk,Obj.cells c e f):=by simp
 refine IT (S.set j []).flatten.length Y Z λE' hle ac I=>?_;have ag:((S.set j []).flatten++ [(bk,Obj.cells c e f)]).eraseIdx (S.set j []).flatten.length=(S.set j []).flatten:=by rw[uH (jK _)];simp
 rw[ag] at I ⊢;exact h E' hle ⟨_,_,_,ac,λi w hi=>by simpa using hi⟩ I
theorem Cl{pp:Rp α}{a:Option Addr}{xs:List α}(j:Nat)(hg:OL e pp E a c seg xs)(ag:Aw E H S)(ai:S[j]?=some seg)
  (h:∀E',Le E E'->Aq pp E' a c xs->Aw E' H (S.set j [])->JL J Q b n L ds todo cs (Ao E' H (S.set j []))):JL J Q b n L ds todo cs (Ao E H S):=by
 obtain⟨wss,hg,Y,Z⟩:=hg;have aj:∀ad:Addr,a=some ad->ad.spot=none:=λad I=>by
  rcases hg with⟨K,_⟩ | ⟨bk,f,K,_⟩;rw[K] at I;cases I;rw[K] at I;cases I;rfl
 let⟨K,al⟩:=HS ag ai;rw[K];refine ZZ hg al λE' hle am ap=>h E' hle ?_ ap;obtain⟨aq,av,O,aw,a1,U⟩:=am;obtain⟨rfl,-,rfl⟩:a=aq/\xs.length=xs.length/\c=av:=by
  simp only[Value.slice.injEq] at O;exact⟨O.1,V,O.2.2⟩
 refine⟨aw,?_⟩;rcases U with U | ⟨bk,off,f,ay,fr,g1,g2,az⟩;exact .inl ⟨tg U,λad I=>.inl (aj ad I)⟩
 .refine .inr ⟨bk,off,g1,λi x ac=>?_⟩;have a0:i<wss.length:=by rw[Y];exact(d7.1 ac).1
  refine have hw:=bZ a0;⟨wss[i],pp.Aj hle (Z i x _ ac hw),f,ay,fr,g2,λm w hm=>?_⟩;rw[uS];exact az _ w (Mb (JF Y Z) hw m w hm)
theorem ae{pp:Rp α}{xs:List α}{x:α}{ws:Lv_}(K:wss.length=xs.length)(h:∀(i:Nat) x ws,xs[i]?=some x->wss[i]?=some ws->pp.r E ws x)(O:pp.r E ws x):
  ∀(i:Nat) y us,(xs++ [x])[i]?=some y->(wss++ [ws])[i]?=some us->pp.r E us y:=by
 intro i y us I hu;rcases mt i xs.length with hi | hi;rw[sX hi] at I;rw[sX AB] at hu;exact h i y us I hu
 .rw [sQ hi] at I;rw[sQ AB,K] at hu;cases hm:i - xs.length with
  | zero=>rw[hm] at I hu;simp at I hu;subst I hu;exact O
  | succ m=>rw[hm] at I;simp at I
theorem VU{pp:Rp α}{t1 t2:TypeId}{a:Option Addr}{xs:List α}{xv:α}{U:TypeId}{Y:String}{Z:Ae_}{z:Value}(j:Nat)
  (al:ops[i]?=some ⟨some d1,.buildSlice t2 1 #[(0,y)],U,Y,Z,g'⟩) (hw:A9 L ops ⟨some d1,.buildSlice t2 1 #[(0,y)],U,Y,Z,g'⟩=some true) (am:Cd b n ⟨some d1,.buildSlice t2 1 #[(0,y)],U,Y,Z,g'⟩=true)
  (ap:ops[ag]?=some ⟨d,.call ⟨.builtin .append,#[x,.tmp d1],ats⟩,ty,p,af,g⟩) (aq:∀w,A9 (AG L (some d1) w) ops ⟨d,.call ⟨.builtin .append,#[x,.tmp d1],ats⟩,ty,p,af,g⟩=some true) (av:Cd b n ⟨d,.call ⟨.builtin .append,#[x,.tmp d1],ats⟩,ty,p,af,g⟩=true)
  (aw:∀w,ev (AG L (some d1) w) x=some (.slice a xs.length c)) (ay:ev L y=some v) (az:ats[0]?=some t) (a0:ats[1]?=some t1) (ht:P.underlying t=some (.slice e)) (a1:P.underlying t1=some (.slice e)) (a2:P.underlying t2=some (.slice e)) (a3:BA P e=some pp.n) (hb:GC P e=some sz) (a4:zeroOf P e=some z) (a5:z.cells.size=pp.n)
  (a6:0<sz) (a7:sz<=64) (a8:0<pp.n) (a9:pp.n<=64) (bb:xs.length+1<=2^40) (hg:OL e pp E a c seg xs) (ac:pp.r E v.cells.toList xv) (be:Aw E H S) (ai:S[j]?=some seg)
  (h:∀w I K seg',OL e pp E I K seg' (xs++ [xv])->Aw E H (S.set j seg')->JL J Q b n (AG (AG L (some d1) w) d (.slice I (xs++ [xv]).length K)) ds (Ah ops rest k) cs (Ao E H (S.set j seg'))):
  JL J Q b n L ds (.inRegion ops (i::ag::rest)::k) cs (Ao E H S):=by
 obtain⟨wss,hg,aj,bg⟩:=hg;let⟨bi,bn⟩:=HS be ai;rw[bi];have bo:v.cells.size=pp.n:=by simpa using pp.len ac
 refine aY al hw am ap aq av aw ay az a0 ht a1 a2 a3 hb a4 a5 a6 a7 bo a8 a9 bb (pp.one ac) hg bn λw I K bv bw bx=>?_;let⟨bz,b0⟩:=Kq ai bx;rw[bz];have hlen:(xs++ [xv]).length=xs.length+1:=by simp
 have:=h w I K bv ⟨wss++ [v.cells.toList],by rw[hlen,ug];simpa using bw,by simp[aj],ae aj bg ac⟩ b0;rw[hlen] at this;exact this
theorem XT{pp:Rp α}{a:Option Addr}{xs:List α}{xv:α}{m:Int}(K:Aq pp E a c xs)(hm:ix xs m=some xv)
  (O:ops[i]?=some ⟨d,.indexAddr t x y,ty,p,af,g⟩) (hw:A9 L ops ⟨d,.indexAddr t x y,ty,p,af,g⟩=some true) (U:Cd b n ⟨d,.indexAddr t x y,ty,p,af,g⟩=true)
  (Y:ev L x=some (.slice a xs.length c)) (Z:ev L y=some (.int kd m)) (ht:P.underlying t=some (.slice e)) (ac:BA P e=some pp.n)
  (h:∀bk o ws,pp.r E ws xv->At E bk o ws->JL J Q b n (AG L d (.pointer (some ⟨bk,o,none⟩))) ds (Ah ops rest k) cs (Ao E H S)):
  JL J Q b n L ds (Ag ops i rest k) cs (Ao E H S):=by
 obtain⟨m,rfl,hm⟩:=Ge hm;have ag:m<xs.length:=(d7.1 hm).1;obtain⟨am,⟨rfl,_⟩ | ⟨bk,off,rfl,ai⟩⟩:=K;simp at ag
 refine let⟨ws,aj,al⟩:=ai m xv hm;Bv (v:=.pointer (some ⟨bk,off+m*pp.n,none⟩)) O hw U (λρ I=>?_) (h bk _ ws aj al);have:=Om (P:=P) (s:=Ao E H S) (d:=d) (ty:=ty) (p:=p) (af:=af) (g:=g) ht ac (I x _ Y) (I y _ Z) ⟨AB,AB⟩;rw[EO rfl] at this;simpa using this
theorem At.K6{bk o:Nat}{ws:Lv_}(h:At E bk o ws)(hj:ws[j]?=some w):(Ao E H S).cell? ⟨bk,o+j,none⟩=some w:=h.cell hj
abbrev HM:=@At.K6
theorem At.Uj{bk o:Nat}{ws:Lv_}(h:At E bk o ws):∀j v,ws[j]?=some v->(Ao E H S).cell? (Addr.add ⟨bk,o,none⟩ j)=some v:=h.cells
theorem Bs(I:Env->St->Prop){c:Code}(K:∀L s,I L s->JL J Q b n L ds todo cs s)(h:(∀L s,I L s->JL J Q b n L ds todo cs s)->JL J Q b n L ds (.code c::todo) cs s):JL J Q b n L ds (.code c::todo) cs s:=h K
theorem HA{I:List Nat}(l:List Nat)(K:Env->St->Prop)(O:∀L s,K L s->JL J Q b n L ds (.inRegion ops l::todo) cs s)(h:(∀L s,K L s->JL J Q b n L ds (.inRegion ops l::todo) cs s)->JL J Q b n L ds (.inRegion ops I::todo) cs s):JL J Q b n L ds (.inRegion ops I::todo) cs s:=h O
theorem W2{c:Code}{body:β->Option (Bn β A)}{f:Nat}{K:β}{a:A}(O:iter body f K=some a)(U:Env->St->β->Prop)(Z:U L s K)
  (round:∀L s x,U L s x->(∀Y,body x=some (.done Y)->Y=a)->(∃st,body x=some st)->(∀L' s' x',U L' s' x'->body x=some (.more x')->JL J Q b n L' ds (.inLoop c::k) cs s')->JL J Q b n L ds (.code c:: .inLoop c::k) cs s):
  JL J Q b n L ds (.code (.loop c)::k) cs s:=by
 refine Ki ?_
 induction f generalizing L s K with
 | zero=>cases O
 | succ f ac=>
  refine round L s K Z (λY h=>Wj O h) (Wi O) λL' s' x' ag hb=>CY (ac (V9 O hb) ag)
def A2(J:Judge P)(f:FuncId)(args:Lv_)(E:LH)(B:Seg)(R:Value->LH->Seg->Prop):Prop:=
 ∀H,Nd E H B->F2 J f args.toArray (mk E H B) (λv s'=>∃E' B',Le E E'/\R v E' B'/\Nd E' H B'/\s'=mk E' H B')
theorem A2.enter{f:FuncId}{c:Code}{vs:Lv_}{B:Seg}(K:P.funcs[f]?=some fn)(hb:fn.body=some c)(O:vs.length<=fn.ntmps)
  (h:∀(Q:Gs_) (I:Frame) (cs:Lf_) (H:LH),Aw E H [B]->(∀v E' S' B',Le E E'->S'.flatten=B'->R v E' B'->Aw E' H S'->J.ok Q (G (I.finish v) cs) (Ao E' H S'))->JL J Q (base f) fn.ntmps (HD 0 vs) [] [.code c] (I::cs) (Ao E H [B])):A2 J f vs E B R:=λH U=>
 F2.enter K hb O λQ I cs Y=>by
  have Z:mk E H B=Ao E H [B]:=by unfold Ao;simp
  rw[Z];exact h Q I cs H (by unfold Aw;simpa using U) λv E' S' B' hle ac ag ai=>by
   subst ac;exact Y v _ ⟨E',S'.flatten,hle,ag,ai,rfl⟩
theorem A2.Aj{f:FuncId}{vs:Lv_}{B:Seg}{I:Value->LH->Seg->Prop}(h:A2 J f vs E B R)(O:∀v E' B',Le E E'->R v E' B'->I v E' B'):A2 J f vs E B I:=λH U=>
 (h H U).Aj λv s' ⟨E',B',K,Y,Z,ac⟩=>⟨E',B',K,O v E' B' K Y,Z,ac⟩
theorem G8{H:LH}:∀{A B:List (Nat×Obj)},Bu (A++B) H=Bu A (Bu B H)
 | [],_=>rfl
 | (c,o)::A,B=>by
  funext x
  simp only[tH,Bu]
  split;rfl;rw[G8]
theorem Ol{H:LH}{x:Nat}:∀{B:List (Nat×Obj)},(∀p∈B,p.1≠x)->Bu B H x=H x
 | [],_=>rfl
 | (c,u)::B,I=>by
  have K:x≠c:=λe=>I (c,u) AM e.symm
  simp only[Bu,d0 K]
  exact Ol λp O=>I p (kW _ O)
theorem Nd.front{A B:List (Nat×Obj)}(h:Nd E H (A++B)):Nd E (Bu B H) A:=by
 rw[Ea] at h ⊢;obtain⟨I,O⟩:=h;rw[tE,tU] at I;refine⟨I.1,λq K=>⟨(O q (tv _ K)).1,?_⟩⟩;rw[Ol λr U e=>I.2.2 q.1 (vl K) r.1 (vl U) e.symm];exact(O q (tv _ K)).2
abbrev Ef:=@Nd.front
theorem Nd.glue{A B:List (Nat×Obj)}(h:Nd E (Bu B H) A)(O:Nd E H B):Nd E H (A++B):=by
 have U:=O;rw[Ea] at h O ⊢;rw[tE,tU];have key:∀q∈A,∀r∈B,q.1≠r.1:=λq I r K e=>by
  have:=(h.2 q I).2;rw[e] at this;let⟨i,hi⟩:=U.mem (b:=r.1) (o:=r.2) K;rw[KU U hi] at this;cases this
 refine⟨⟨h.1,O.1,λx Y y Z e=>?_⟩,λq I=>?_⟩;obtain⟨q,I,rfl⟩:=tn.1 Y;obtain⟨r,K,rfl⟩:=tn.1 Z;exact key q I r K e
 .rcases sO.1 I with I | I
  .refine⟨(h.2 q I).1,?_⟩;have:=(h.2 q I).2
   rwa[Ol λr K e=>key q I r K e.symm] at this
  .exact O.2 q I
abbrev EQ:=@Nd.glue
theorem Wt{f:FuncId}{vs:Lv_}(j:Nat)
  (ac:A2 J f vs E seg R) (ag:ops[i]?=some ⟨d,.call ⟨.value (.func f),args,ats⟩,ty,p,af,g⟩) (hw:A9 L ops ⟨d,.call ⟨.value (.func f),args,ats⟩,ty,p,af,g⟩=some true) (ai:((b.kind != .early)&&BC n d)=true) (hb:ET P f=true)
  (aj:evs L args.toList=some vs) (I:Aw E H S) (K:S[j]?=some seg) (al:∀v E' seg',Le E E'->R v E' seg'->Aw E' H (S.set j seg')->JL J Q b n (AG L d v) ds (Ah ops rest k) cs (Ao E' H (S.set j seg'))):
  JL J Q b n L ds (Ag ops i rest k) cs (Ao E H S):=by
 have O:S.flatten.Perm (seg++(S.set j []).flatten):=(CB (seg':=seg) K).1.trans lF;have U:Nd E H (seg++(S.set j []).flatten):=Cj I O;have am:Ao E H S=mk E (Bu (S.set j []).flatten H) seg:=by
  rw[show Ao E H S=mk E H S.flatten from rfl,Gk I O];unfold mk;rw[G8]
 rw[am];refine dV ag hw ai hb aj (ac _ (Ef U)) ?_;rintro v s' ⟨E',B',hle,ap,aq,rfl⟩;have e2:mk E' (Bu (S.set j []).flatten H) B'=mk E' H (B'++(S.set j []).flatten):=by unfold mk;rw[G8]
 have av:Nd E H (S.set j []).flatten:=by
  have:=U;rw[Ea] at this ⊢;rw[tE,tU] at this;exact⟨this.1.2.1,λq aw=>this.2 q (tG _ aw)⟩
 refine XS V λ⟨w,ay⟩=>?_;have az:Nd E' H (S.set j []).flatten:=av.grow λx a0=>by
  have a1:=ay.d x a0;have a2:Bu B' (Bu (S.set j []).flatten H) x=none:=a1;exact(IW a2).1
 have Y:Nd E' H (B'++(S.set j []).flatten):=EQ aq az;rw[e2];have Z:(B'++(S.set j []).flatten).Perm (S.set j B').flatten:=lF.trans (CB K).2.symm;rw[Gk Y Z];exact al v E' B' hle ap (Cj Y Z)
theorem JS.call{f:FuncId}{vs:Lv_}
  (O:A2 J f vs E [] R) (U:ops[i]?=some ⟨d,.call ⟨.value (.func f),args,ats⟩,ty,p,af,g⟩) (hw:A9 L ops ⟨d,.call ⟨.value (.func f),args,ats⟩,ty,p,af,g⟩=some true) (Y:((b.kind != .early)&&BC n d)=true) (hb:ET P f=true)
  (Z:evs L args.toList=some vs) (I:Aw E H S) (ac:∀v E' seg',Le E E'->R v E' seg'->Aw E' H (S++ [seg'])->JL J Q b n (AG L d v) ds (Ah ops rest k) cs (Ao E' H (S++ [seg']))):
  JL J Q b n L ds (Ag ops i rest k) cs (Ao E H S):=by
 have ag:Ao E H S=Ao E H (S++ [[]]):=by unfold Ao;simp
 rw[ag];refine Wt S.length O U hw Y hb Z (by unfold Aw at I ⊢;rw[Gx,s6];exact I) AM λv E' seg' hle ai K=>?_;have e2:(S++ [[]]).set S.length seg'=S++ [seg']:=I2 _ _ _ _;rw[e2] at K ⊢;exact ac v E' seg' hle ai K
theorem I0(I:S'.flatten=S.flatten)(K:Aw E H S)(h:Aw E H S'->JL J Q b n L ds todo cs (Ao E H S')):JL J Q b n L ds todo cs (Ao E H S):=by
 unfold Ao Aw at*;rw[I] at h;exact h K
end
def Ld(P:Program)(t:TypeId)(a:Addr)(s:St)(v:Value):Prop:=lp P (loadVar t a) s (λu s'=>u=v/\s'=s) (λ_ _=>False)
theorem Ld.one{P:Program}{t:TypeId}{a:Addr}{s:St}{v:Value}(ht:DD P t=some false)(h:s.cell? a=some v):Ld P t a s v:=Vn ht h ⟨V,V⟩
theorem Ld.many{P:Program}{t:TypeId}{a:Addr}{s:St}{vs:Lv_}(ht:DD P t=some true)(I:BA P t=some vs.length)(h:∀j v,vs[j]?=some v->s.cell? (a.add j)=some v):Ld P t a s (.agg vs.toArray):=Vp ht I h ⟨V,V⟩
abbrev DQ:=@Ld.many
def RV(P:Program)(L:Env)(s:St):List ResultVar->Lv_->Prop
 | [],[]=>True
 | .tmp t::rs,v::vs=>look L t=some v/\RV P L s rs vs
 | .cell a t::rs,v::vs=>(∃ad,look L a=some (.pointer (some ad))/\Ld P t ad s v)/\RV P L s rs vs
 | _,_=>False
def QL:Lv_->Value
 | [v]=>v
 | vs=>.tuple vs.toArray
theorem aZ(vs:Lv_):(if h:vs.toArray.size=1 then vs.toArray[0] else Value.tuple vs.toArray)=QL vs:=by
 match vs with
 | []=>rfl
 | [v]=>rfl
 | a::b::c=>simp[QL]
theorem BY.list{P:Program}{f:FuncId}{n:Nat}{L:Env}{s:St}{rs:List ResultVar}{vs:Lv_}(Y:P.funcs[f]?=some fn)(Z:fn.results.toList=rs)(h:RV P L s rs vs):BY P f L n s (QL vs):=by
 refine⟨fn,Y,λT O=>?_⟩;unfold results;rw[uM,Z];have key:∀(rs:List ResultVar) (acc vs:Lv_) {Q:Lv_->St->Prop}{X:Halt->St->Prop},RV P L s rs vs->Q (acc.reverse++vs) s->lp P (List.mapM.loop (m:=Sem) (λr=>match r with
   | .tmp t=>pure (T.getD t undef)
   | .cell a t=>do loadVar t (← asAddr (T.getD a undef))) rs acc) s Q X:=by
  intro rs
  induction rs with
  | nil=>
   intro acc vs Q X h k;cases vs with
   | nil=>simp only[s6] at k;exact k
   | cons v vs=>cases h
  | cons r rs U=>
   intro acc vs Q X h k;cases vs with
   | nil=>cases r<;>cases h
   | cons v vs=>
    cases r with
    | tmp t=>
     obtain⟨I,K⟩:=h;have:=O.at_ t v I;simp only[List.mapM.loop];rw[this];exact U (v::acc) vs K (by simpa using k)
    | cell a t=>
     obtain⟨⟨ad,I,ac⟩,K⟩:=h;have:=O.at_ a _ I;simp only[List.mapM.loop];rw[this];refine AH _ _ (Fy _ (show lp P (loadVar t ad) s _ _ from ac) ?_ (λ_ _ h=>h.elim));rintro u s' ⟨rfl,rfl⟩;exact U (u::acc) vs K (by simpa using k)
 refine AH _ _ (AH (x:=List.mapM.loop (m:=Sem) _ rs []) (f:=λr=>pure r.toArray) (key rs [] vs h ?_));simp only[List.reverse_nil,tB,lp,pure];exact⟨aZ vs,trivial⟩
abbrev Bm:=@BY.list
section
variable {g:Goroutine}
theorem FA(j:Nat)(Y:Aw E H S)(O:S[j]?=some seg)(h:Aw E H (S.set j [])->J.ok Q g (Ao E H (S.set j []))):J.ok Q g (Ao E H S):=by
 let⟨Z,I⟩:=HS Y O;have ac:Nd E H ((S.set j []).flatten++ []):=by rw[s6];exact Lo.Nd.left I
 refine let⟨al,ag⟩:=Kq (seg':=[]) O ac;J.ghost (s₀:=Ao E H (S.set j [])) ⟨λ_ _ h=>h,λx o ai=>?_,λ_ _ h=>.inl h,V⟩ (h ag);have U:Bu (S.set j []).flatten H x=some o:=ai;show(Ao E H S).H x=some o;rw[Z];show Bu ((S.set j []).flatten++seg) H x=some o;rw[show Bu ((S.set j []).flatten++seg) H=Bu (seg++(S.set j []).flatten) H from Oh I lF,G8];by_cases hm:∃p∈seg,p.1=x;exfalso;obtain⟨p,K,e⟩:=hm;have aj:=Ef (Cj I lF);have:=((Nd.iff.1 aj).2 p K).2;rw[e,U] at this;cases this;rw[Ol λp K e=>hm ⟨p,K,e⟩];exact U
end
variable{E0:LH}{K:Next->St->Prop}
section
variable {b:Frame}{n:Nat}
variable {x:Operand}{v:Value}{i:Nat}
theorem SZ{ρ:Operand->Value}:execOp ρ ⟨d,.buildSlice t sz ps,ty,p,af,g⟩=(do pure (Next.value (← Instr.buildSlice t sz (ps.map λ(j,x)=>(j,ρ x))))):=by
 simp only[execOp]
theorem bf(v:Av_)(off:Nat)(c:Av_):v.zipIdx.foldl (λcs (x,j)=>cs.setIfInBounds (off+j) x) c=Be c off v.toList:=by
 rw[← Array.foldl_toList,Array.toList_zipIdx];have key:∀(l:Lv_) (st:Nat) (c:Av_),List.foldl (λcs (p:Value×Nat)=>cs.setIfInBounds (off+p.2) p.1) c (l.zipIdx st)=Be c (off+st) l:=by
  intro l
  induction l with
  | nil=>intro st c;rfl
  | cons x l I=>intro st c;simp only[wN,u5,Be];rw[I];rfl
 exact key v.toList 0 c
def Mw(place:Nat->Option (Nat×Nat))(cells:Av_):List (Nat×Value)->Option (Av_)
 | []=>some cells
 | (i,v)::rest=>match place i with
  | none=>none
  | some (off,size)=>if v.cells.size=size/\off+v.cells.size<=cells.size then Mw place (Be cells off v.cells.toList) rest else none
theorem fill_eq{place:Nat->Option (Nat×Nat)}:∀{vs:List (Nat×Value)}{cells:Av_},Instr.fill place cells vs=Mw place cells vs
 | [],_=>rfl
 | (i,v)::rest,cells=>by
  simp only[Instr.fill,Mw]
  cases place i with
  | none=>rfl
  | some q=>
   obtain⟨off,size⟩:=q
   simp only
   by_cases h:v.cells.size=size/\off+v.cells.size<=cells.size;rw[d9 h,d0 (by simp only[t8,uj,ne_eq];omega),fill_eq,bf];rw[d0 h,d9 (by simp only[t8,uj,ne_eq];omega)]
theorem Ww{n:Nat}:∀(vs:Lv_) (st:Nat) (cells:Av_),(∀v∈vs,v.cells.size=n)->cells.size=(st+vs.length)*n->
  ∃K,Mw (λi=>some (i*n,n)) cells ((vs.zipIdx st).map λq=>(q.2,q.1))=some K/\K.toList=cells.toList.take (st*n)++(vs.map (·.cells.toList)).flatten
 | [],st,cells,_,hs=>⟨cells,rfl,by simp only[wo,tQ] at hs;simp[← hs,uk]⟩
 | v::vs,st,cells,O,hs=>by
  have I:=O v AM
  have hle:st*n+n<=cells.size:=by
   rw[hs,tb];have:(st+1)*n<=(st+(vs.length+1))*n:=tJ _ AB;rw[tZ] at this;exact this
  obtain⟨U,Y,Z⟩:=Ww vs (st+1) (Be cells (st*n) v.cells.toList) (λu hu=>O u (kW _ hu)) (by rw[Oj,hs,tb];congr 1;omega);refine⟨U,?_,?_⟩;simp only[wN,tX,Mw];rw[d9 ⟨I,AB⟩];exact Y;rw[Z,tZ];have:=Sx cells (st*n) v.cells.toList (by simp[I];omega);rw[show v.cells.toList.length=n by simp[I]] at this;rw[this];simp
def MB{α:Type}(pp:Rp α)(E:LH):List α->Lv_->Prop
 | [],[]=>True
 | x::xs,v::vs=>pp.r E v.cells.toList x/\MB pp E xs vs
 | _,_=>False
theorem MB.at{E:LH}{α:Type}{pp:Rp α}:∀{xs:List α}{vs:Lv_},MB pp E xs vs->∀(i:Nat) x v,xs[i]?=some x->vs[i]?=some v->pp.r E v.cells.toList x
 | [],_,_,_,_,_,h,_=>by simp at h
 | _::_,[],h,_,_,_,_,_=>h.elim
 | x::xs,v::vs,h,0,y,u,I,hu=>by simp at I hu;subst I hu;exact h.1
 | x::xs,v::vs,h,i+1,y,u,I,hu=>MB.at h.2 i y u (by simpa using I) (by simpa using hu)
theorem YT{ρ:Operand->Value}(ap:FV L ρ){pp:Rp α}(vs:Lv_){z:Value}(xs:List α)
  (ht:P.underlying t=some (.slice e)) (aq:BA P e=some pp.n) (av:zeroOf P e=some z) (aw:decide (0<sz*pp.n/\sz*pp.n<=2^24)=true)
  (ay:ps.toList.mapM (λq=>(ev L q.2).map λv=>(q.1,v))=some ((vs.zipIdx 0).map λq=>(q.2,q.1)))
  (O:vs.length=sz) (U:xs.length=sz) (az:MB pp E0 xs vs) (a0:Aw E H S)
  (h:∀r seg,OL e pp E0 (some ⟨r,0,none⟩) sz seg xs->Aw E H (S++ [seg])->K (.value (.slice (some ⟨r,0,none⟩) xs.length sz)) (Ao E H (S++ [seg]))):
  lp P (execOp ρ ⟨d,.buildSlice t sz ps,ty,p,af,g⟩) (Ao E H S) K (λ_ _=>False):=by
 have ag:=az.at;have a1:(ps.map λ(j,x)=>(j,ρ x)).toList=(vs.zipIdx 0).map λq=>(q.2,q.1):=by
  have key:∀(l:List (Nat×Operand)) (vs:List (Nat×Value)),l.mapM (λq=>(ev L q.2).map λv=>(q.1,v))=some vs->l.map (λ(j,x)=>(j,ρ x))=vs:=by
   intro l
   induction l with
   | nil=>intro vs h;simp at h;subst h;rfl
   | cons q l Y=>
    intro vs h;simp only[wC,bind] at h;cases Z:ev L q.2 with
    | none=>rw[Z] at h;simp at h
    | some w=>
     rw[Z] at h;simp only[uf,Option.bind_some] at h;let⟨a2,a3,ai⟩:=bind_some h;simp at ai;subst ai;simp[Y a2 a3,ap _ _ Z]
  rw[we];exact key _ _ ay
 have aj:∀v∈vs,v.cells.size=pp.n:=λv I=>by
  let⟨i,hi⟩:=tj.1 I;have a4:i<xs.length:=by rw[U,← O];exact(d7.1 hi).1
  simpa using pp.len (ag i _ v (bZ a4) hi)
 rw[SZ];refine AH _ _ ?_;unfold Instr.buildSlice;refine AH _ _ (C4 ht (AH _ _ (F4 aq ?_)));have a7:=uc aw;rw[d0 AB,d0 AB];refine AH (x:=zeroValue e) _ (Is av ?_);rw[Jw,a1];obtain⟨cells,a5,ac⟩:=Ww vs 0 ((Array.range (sz*pp.n)).map (z.cells[· % z.cells.size]!)) aj (by simp[O]);simp only[fill_eq,a5];simp only[u0,List.take_zero,tB] at ac;refine AH _ _ (JC a0 λr al=>?_);rw[(Gb al).1];have am:cells.size=sz*pp.n:=by
  have:cells.toList.length=sz*pp.n:=by
   rw[ac];have:∀(vs:Lv_),(∀v∈vs,v.cells.size=pp.n)->(vs.map (·.cells.toList)).flatten.length=vs.length*pp.n:=by
    intro vs
    induction vs with
    | nil=>intro _;simp
    | cons v vs Y=>intro h;rw[tX,tk,sR,Y λw hw=>h w (kW _ hw),tb,tZ,wP];simp[h v AM]
   rw[this vs aj,O]
  simpa using this
 have:=h r [(r,.cells cells e (0,0))] ⟨vs.map (·.cells.toList),.inr ⟨r,cells,rfl,rfl,am,AB,by rw[← ac,uk (by simp[am,U])]⟩,by simp[O,U],λi x ws a6 hw=>by
  rw[tV] at hw
  cases I:vs[i]? with
  | none=>rw[I] at hw;cases hw
  | some v=>rw[I] at hw;cases hw;exact ag i x v a6 I⟩ (Gb al).2
 rw[U] at this;exact this
theorem Gz{pp:Rp α}(vs:Lv_){z:Value}(xs:List α)
  (I:ops[i]?=some ⟨d,.buildSlice t sz ps,ty,p,af,g⟩) (hw:A9 L ops ⟨d,.buildSlice t sz ps,ty,p,af,g⟩=some true) (K:Cd b n ⟨d,.buildSlice t sz ps,ty,p,af,g⟩=true)
  (ht:P.underlying t=some (.slice e)) (O:BA P e=some pp.n) (U:zeroOf P e=some z) (Y:decide (0<sz*pp.n/\sz*pp.n<=2^24)=true)
  (Z:ps.toList.mapM (λq=>(ev L q.2).map λv=>(q.1,v))=some ((vs.zipIdx 0).map λq=>(q.2,q.1)))
  (ac:vs.length=sz) (ag:xs.length=sz) (ai:MB pp E xs vs) (aj:Aw E H S)
  (h:∀r seg,OL e pp E (some ⟨r,0,none⟩) sz seg xs->Aw E H (S++ [seg])->JL J Q b n (AG L d (.slice (some ⟨r,0,none⟩) xs.length sz)) ds (Ah ops rest k) cs (Ao E H (S++ [seg]))):
  JL J Q b n L ds (Ag ops i rest k) cs (Ao E H S):=by
 exact EH I hw K λρ al=>YT al vs xs ht O U Y Z ac ag ai aj h
theorem OL.get{pp:Rp α}{a:Option Addr}{xs:List α}{m:Nat}{x:α}(hg:OL e pp E a c seg xs)(hm:xs[m]?=some x):
  ∃bk f ws,a=some ⟨bk,0,none⟩/\seg=[(bk,.cells f e (0,0))]/\pp.r E ws x/\(∀j w,ws[j]?=some w->f[m*pp.n+j]?=some w)/\(m+1)*pp.n<=f.size/\
   ∀(x':α) (ws':Lv_),pp.r E ws' x'->OL e pp E a c [(bk,.cells (Be f (m*pp.n) ws') e (0,0))] (xs.set m x'):=by
 obtain⟨wss,hg,ac,U⟩:=hg;have ag:m<xs.length:=(d7.1 hm).1;rcases hg with⟨Y,ai,_⟩ | ⟨bk,f,Y,ai,aw,aj,al⟩;omega
 have hw:wss[m]?=some wss[m]:=bZ AB;have am:=JF ac U;have hle:(m+1)*pp.n<=xs.length*pp.n:=tJ _ ag;have a0:xs.length*pp.n<=c*pp.n:=tJ _ aj;refine⟨bk,f,wss[m],Y,ai,U m x _ hm hw,λj w hj=>?_,AB,λx' ws' ap=>?_⟩;have:=Mb am hw j w hj;rw[al,ue] at this;split at this;simpa using this;cases this
 .have aq:ws'.length=pp.n:=pp.len ap;refine⟨wss.set m ws',.inr ⟨bk,_,Y,V,by rw[Oj];exact aw,by simpa using aj,?_⟩,by simpa using ac,λi y us O hu=>?_⟩
  .simp only [sW];have key:∀(wss:List (Lv_)) (m:Nat) (hm:m<wss.length),(∀ws∈wss,ws.length=pp.n)->∀j,(wss.set m ws').flatten[j]?=if m*pp.n<=j/\j<(m+1)*pp.n then ws'[j - m*pp.n]? else wss.flatten[j]? :=by
    intro wss
    induction wss with
    | nil=>intro m hm;simp at hm
    | cons us wss Z=>
     intro m hm av j;have hu:us.length=pp.n:=av us AM;cases m with
     | zero=>
      simp only[uZ,tk,u0,tz,true_and,uo,Nat.one_mul,uO];split;rename_i hj;rw[sX AB];rename_i hj;rw[sQ AB,sQ AB,aq,hu]
     | succ m=>
      simp only[vQ,tk];have I:(m+1)*pp.n=m*pp.n+pp.n:=tZ _ _;have e2:(m+1+1)*pp.n=(m+1)*pp.n+pp.n:=tZ _ _;rcases mt j us.length with hj | hj;rw[sX hj,sX hj,d0 AB];rw[sQ hj,sQ hj,Z m (by simpa using hm) (λws ay=>av ws (kW _ ay))];by_cases K:m*pp.n<=j - us.length/\j - us.length<(m+1)*pp.n;rw[d9 K,d9 AB];congr 1;omega;rw[d0 K,d0 AB]
   have az:∀(vs:Lv_) (c:Av_) (off:Nat),off+vs.length<=c.size->∀j,(Be c off vs)[j]?=if off<=j/\j<off+vs.length then vs[j - off]? else c[j]? :=by
    intro vs
    induction vs with
    | nil=>intro c off _ j;simp[Be];omega
    | cons w vs Z=>
     intro c off K j;simp only[Be,tb] at*;rw[Z _ _ AP];by_cases I:j=off;subst I;rw[d0 AB,d9 AB,vh,ub,sT AB]
     .by_cases e2:off+1<=j/\j<off+1+vs.length
      .rw [d9 e2,d9 AB];have:j - off=(j - (off+1))+1:=by omega
       rw[this];simp
      .rw [d0 e2,d0 AB,sN AB]
   apply ud;intro j;have I:(m+1)*pp.n=m*pp.n+pp.n:=tZ _ _;have t1:(Be f (m*pp.n) ws').toList[j]?=(Be f (m*pp.n) ws')[j]? :=tN;have t2:f.toList[j]?=f[j]? :=tN;rw[key wss m AB am,ue,t1,az ws' f (m*pp.n) AB,al,ue,t2,aq];by_cases K:m*pp.n<=j/\j<(m+1)*pp.n;rw[d9 K,d9 AB,d9 AB];rw[d0 K,d0 (show ¬(m*pp.n<=j/\j<m*pp.n+pp.n) by omega)]
  .rw [tD] at O hu;by_cases I:m=i;subst I;rw[d9 rfl,d9 ag] at O;rw[d9 rfl,d9 AB] at hu;cases O;cases hu;exact ap;rw[d0 I] at hu O;exact U i y us O hu
abbrev E8:=@OL.get
theorem Ml{pp:Rp α}{a:Option Addr}{xs:List α}{xv:α}{m:Int}(j:Nat)(hg:OL e pp E a c seg xs)(hm:ix xs m=some xv)(K:S[j]?=some seg)
  (O:ops[i]?=some ⟨d,.indexAddr t x y,ty,p,af,g⟩) (hw:A9 L ops ⟨d,.indexAddr t x y,ty,p,af,g⟩=some true) (U:Cd b n ⟨d,.indexAddr t x y,ty,p,af,g⟩=true)
  (Y:ev L x=some (.slice a xs.length c)) (Z:ev L y=some (.int kd m)) (ht:P.underlying t=some (.slice e)) (ac:BA P e=some pp.n)
  (h:∀bk o f ws,S[j]?=some [(bk,.cells f e (0,0))]->pp.r E ws xv->(∀j w,ws[j]?=some w->f[o+j]?=some w)->o+pp.n<=f.size->(∀(x':α) (ws':Lv_),pp.r E ws' x'->OL e pp E a c [(bk,.cells (Be f o ws') e (0,0))] (xs.set m.toNat x'))->o=m.toNat*pp.n->a=some ⟨bk,0,none⟩->
   JL J Q b n (AG L d (.pointer (some ⟨bk,o,none⟩))) ds (Ah ops rest k) cs (Ao E H S)):
  JL J Q b n L ds (Ag ops i rest k) cs (Ao E H S):=by
 obtain⟨m,rfl,hm⟩:=Ge hm;have aq:m<xs.length:=(d7.1 hm).1;obtain⟨bk,f,ws,rfl,rfl,ag,ai,aj,al⟩:=E8 hg hm;have am:(m+1)*pp.n=m*pp.n+pp.n:=tZ _ _;have ap:m*pp.n+pp.n<=f.size:=by rw[← am];exact aj
 refine Bv (v:=.pointer (some ⟨bk,m*pp.n,none⟩)) O hw U (λρ I=>?_) (h bk (m*pp.n) f ws K ag ai ap (by simpa using al) AM V);have:=Om (P:=P) (s:=Ao E H S) (d:=d) (ty:=ty) (p:=p) (af:=af) (g:=g) ht ac (I x _ Y) (I y _ Z) ⟨AB,AB⟩;rw[EO rfl] at this;simpa using this
end
section
variable {b:Frame}{n:Nat}
variable {x:Operand}{v:Value}{i:Nat}
theorem JS.perm(I:S.flatten.Perm S'.flatten)(K:Aw E H S)(h:Aw E H S'->JL J Q b n L ds todo cs (Ao E H S')):JL J Q b n L ds todo cs (Ao E H S):=by
 grind [Nd.perm,Aw,Ao,Gk]
abbrev Cw:=@JS.perm
theorem Ha{A B:Seg}(j:Nat)(I:S[j]?=some (A++B))(K:Aw E H S)(h:Aw E H (S.set j A++ [B])->JL J Q b n L ds todo cs (Ao E H (S.set j A++ [B]))):JL J Q b n L ds todo cs (Ao E H S):=by
 refine Cw ?_ K h;have O:=(CB (seg':=A) I).1;have U:=(CB (seg':=A) I).2;rw[Gx];refine O.trans ?_;have Y:=U.symm.append_right B
 rwa[lZ] at Y
theorem JS.swap{A B:Seg}(j l:Nat)(hj:S[j]?=some A)(K:S[l]?=some B)(O:(j==l)=false)(U:Aw E H S)(h:Aw E H ((S.set j B).set l A)->JL J Q b n L ds todo cs (Ao E H ((S.set j B).set l A))):JL J Q b n L ds todo cs (Ao E H S):=by
 have I:j≠l:=by simpa using O
 refine Cw ?_ U h;have a1:=(CB (seg':=B) hj).1;have Y:(S.set j [])[l]?=some B:=by rw[s0 I];exact K
 have Z:=(CB (seg':=A) Y).1;have ac:((S.set j B).set l A)[l]?=some A:=by
  have:l<(S.set j B).length:=by rw[sW];exact(d7.1 K).1
  rw[tD,d9 rfl,d9 this]
 have c1:=(CB (seg':=A) ac).1;rw[uF] at c1;have ag:((S.set j B).set l [])[j]?=some B:=by
  have:j<S.length:=(d7.1 hj).1;rw[s0 (ti I)];simp[this]
 have c2:=(CB (seg':=B) ag).1;have ai:(((S.set j B).set l []).set j [])=((S.set j []).set l []):=by
  rw[uT _ _ I,uF,uT _ _ I.symm]
 rw[ai] at c2;exact a1.trans ((Z.append_right A).trans ((c2.symm.append_right A).trans c1.symm))
theorem G6{bk:Nat}{c:Av_}{f:Nat×Nat}{vs:Lv_}(j:Nat)(I:Aw E H S)(hj:S[j]?=some ((bk,.cells c e f)::seg))(K:(c.toList.drop off).take vs.length=vs):∀i v,vs[i]?=some v->(Ao E H S).cell? (Addr.add ⟨bk,off,none⟩ i)=some v:=
 aW I hj λi v hi=>by
  have O:i<vs.length:=(d7.1 hi).1
  rw[← K,List.getElem?_take_of_lt O,vW,tN] at hi
  exact hi
theorem Oo(vs:Lv_):∀(c:Av_) (off:Nat),off+vs.length<=c.size->∀j,(Be c off vs)[j]?=if off<=j/\j<off+vs.length then vs[j - off]? else c[j]? :=by
 induction vs with
 | nil=>intro c off _ j;simp[Be];omega
 | cons w vs I=>
  intro c off O j;simp only[Be,tb] at*;rw[I _ _ AP];by_cases K:j=off;subst K;rw[d0 AB,d9 AB,vh,ub,sT AB]
  .by_cases e2:off+1<=j/\j<off+1+vs.length
   .rw [d9 e2,d9 AB];have:j - off=(j - (off+1))+1:=by omega
    rw[this];simp
   .rw [d0 e2,d0 AB,sN AB]
end
theorem elim_inl{I:Type}{f:α->Option I}{g:β->Option I}{x:α}{r:I}(h:Sum.elim f g (.inl x)=some r):f x=some r:=h
theorem elim_inr{I:Type}{f:α->Option I}{g:β->Option I}{x:β}{r:I}(h:Sum.elim f g (.inr x)=some r):g x=some r:=h
def room{α:Type}(xs:List α)(x:α):Option (List α):=if xs.length+1<=2^40 then some (xs++ [x]) else none
theorem Wq{xs ys:List α}{x:α}(h:room xs x=some ys):xs.length+1<=2^40/\ys=xs++ [x]:=by
 unfold room at h;split at h;rename_i hb;exact⟨hb,(f8 h).symm⟩;cases h
def RY(a b:Int):Option Int:=if b=0 then none else some (a.tmod b)
def RI(a b:Nat):Option Nat:=if b=0 then none else some (a%b)
section
variable {x:Operand}{v:Value}{m:Int}{a b:Nat}
theorem fW(I:ρ x=iV m)(K:ρ y=iV m')(h:RY m m'=some r):Yl P ⟨d,.binOp .rem t x y u,ty,p,af,g⟩ ρ s (iV r):=by
 unfold RY at h;split at h;cases h;rename_i O;cases h;exact Yl.rem I K O
theorem ez{r:Nat}(I:ρ x=.int .u64 (a:Int))(K:ρ y=.int .u64 (b:Int))(h:RI a b=some r):Yl P ⟨d,.binOp .rem t x y u,ty,p,af,g⟩ ρ s (.int .u64 (r:Int)):=by
 unfold RI at h;split at h;cases h;rename_i O;cases h;exact iE I K O
theorem Yl.min2(I:ρ x=iV m)(K:ρ y=iV m'):Yl P ⟨d,.call ⟨.builtin .min,#[x,y],ats⟩,ty,p,af,g⟩ ρ s (iV (min m m')):=by
 have e:(if m'<m then m' else m)=min m m':=by split<;>omega
 simp[Yl,execOp,lp,pure,bind,Sem.bind,I,K,resolve,invoke,builtin,Builtin.min_,Builtin.min2,e]
theorem Yl.max2(I:ρ x=iV m)(K:ρ y=iV m'):Yl P ⟨d,.call ⟨.builtin .max,#[x,y],ats⟩,ty,p,af,g⟩ ρ s (iV (max m m')):=by
 have e:(if m<m' then m' else m)=max m m':=by split<;>omega
 simp[Yl,execOp,lp,pure,bind,Sem.bind,I,K,resolve,invoke,builtin,Builtin.max_,Builtin.max2,e]
end
def NS(P:Program):List Field->List (Nat×Nat)->Prop
 | f::I,(o,n)::ps=>f.offset=o/\BA P f.type=some n/\NS P I ps
 | [],[]=>True
 | _,_=>False
theorem NS.mapM{P:Program}:∀{I:List Field}{ps:List (Nat×Nat)},NS P I ps->I.mapM (λf=>(BA P f.type).map λn=>(f.offset,n))=some ps
 | [],[],_=>rfl
 | [],_::_,h=>h.elim
 | _::_,[],h=>h.elim
 | f::I,(o,n)::ps,h=>by
  obtain⟨K,O,U⟩:=h
  simp only[wC,bind,O,uf,Option.bind_some,NS.mapM U,K];rfl
theorem SS{L:Env}{ρ:Operand->Value}(h:FV L ρ):∀{l:List (Nat×Operand)}{vs:List (Nat×Value)},l.mapM (λq=>(ev L q.2).map λv=>(q.1,v))=some vs->l.map (λ(j,x)=>(j,ρ x))=vs
 | [],vs,e=>by simp at e;subst e;rfl
 | q::l,vs,e=>by
  simp only[wC,bind] at e
  cases I:ev L q.2 with
  | none=>rw[I] at e;simp at e
  | some w=>
   rw[I] at e
   simp only[uf,Option.bind_some] at e
   let⟨U,O,K⟩:=bind_some e
   simp at K;subst K
   simp[SS h O,h _ _ I]
theorem DZ{P:Program}{s:St}{ρ:Operand->Value}{L:Env}{d:Option Tmp}{t ty:TypeId}{p:String}{af:Ae_}{g:On_}{z:Value}{vs:List (Nat×Value)}{cells:Av_}(places:List (Nat×Nat))(h:FV L ρ)(K:zeroOf P t=some z)(ht:P.underlying t=some (.struct I))(O:NS P I.toList places)
  (U:ps.toList.mapM (λq=>(ev L q.2).map λv=>(q.1,v))=some vs) (Y:Mw (places.toArray[·]?) z.cells vs=some cells):Yl P ⟨d,.build t ps,ty,p,af,g⟩ ρ s (.agg cells):=
 Yl.build (places:=places.toArray) K ht (by simpa using O.mapM) (SS h U) (by rw[fill_eq];exact Y)
theorem OL.again{e:TypeId}{pp:Rp α}{E:LH}{a:Option Addr}{bk o:Nat}{f:Av_}{xs:List α}{m:Int}{x:α}(hg:OL e pp E a c [(bk,.cells f e (0,0))] xs)(hm:ix xs m=some x)(K:o=m.toNat*pp.n):
  ∃ws,pp.r E ws x/\(∀j w,ws[j]?=some w->f[o+j]?=some w)/\o+pp.n<=f.size/\∀(x':α) (ws':Lv_),pp.r E ws' x'->OL e pp E a c [(bk,.cells (Be f o ws') e (0,0))] (xs.set m.toNat x'):=by
 obtain⟨m,rfl,hm⟩:=Ge hm;let⟨ai,aj,ws,al,I,O,U,Y,Z⟩:=E8 hg hm;simp only[vx,f4,Obj.cells.injEq,wQ] at I;obtain⟨rfl,rfl⟩:=I;have ac:(m+1)*pp.n=m*pp.n+pp.n:=tZ _ _;have ag:o=m*pp.n:=by simpa using K
 subst ag;exact⟨ws,O,U,by rw[← ac];exact Y,by simpa using Z⟩
section
variable {b:Frame}{n:Nat}
variable {x:Operand}{v:Value}{i:Nat}
theorem JS.app{pp:Rp α}{t1 t2:TypeId}{a:Option Addr}{xs ys:List α}{xv:α}{id:Nat}{K:TypeId}{O:String}{U:Ae_}{z:Value}(j:Nat)(ag:room xs xv=some ys)
  (ai:ops[i]?=some ⟨some d1,.buildSlice t2 1 #[(0,y)],K,O,U,g'⟩) (hw:A9 L ops ⟨some d1,.buildSlice t2 1 #[(0,y)],K,O,U,g'⟩=some true) (aj:Cd b n ⟨some d1,.buildSlice t2 1 #[(0,y)],K,O,U,g'⟩=true)
  (al:ops[id]?=some ⟨d,.call ⟨.builtin .append,#[x,.tmp d1],ats⟩,ty,p,af,g⟩) (am:∀w,A9 (AG L (some d1) w) ops ⟨d,.call ⟨.builtin .append,#[x,.tmp d1],ats⟩,ty,p,af,g⟩=some true) (ap:Cd b n ⟨d,.call ⟨.builtin .append,#[x,.tmp d1],ats⟩,ty,p,af,g⟩=true)
  (aq:∀w,ev (AG L (some d1) w) x=some (.slice a xs.length c)) (av:ev L y=some v) (aw:ats[0]?=some t) (ay:ats[1]?=some t1) (ht:P.underlying t=some (.slice e)) (az:P.underlying t1=some (.slice e)) (a0:P.underlying t2=some (.slice e)) (a1:BA P e=some pp.n) (hb:GC P e=some sz) (a2:zeroOf P e=some z) (a3:z.cells.size=pp.n)
  (a4:0<sz) (a5:sz<=64) (a6:0<pp.n) (a7:pp.n<=64) (hg:OL e pp E a c seg xs) (a8:pp.r E v.cells.toList xv) (a9:Aw E H S) (bb:S[j]?=some seg)
  (h:∀w Z ac seg',OL e pp E Z ac seg' ys->Aw E H (S.set j seg')->JL J Q b n (AG (AG L (some d1) w) d (.slice Z ys.length ac)) ds (Ah ops rest k) cs (Ao E H (S.set j seg'))):
  JL J Q b n L ds (.inRegion ops (i::id::rest)::k) cs (Ao E H S):=by
 obtain⟨be,rfl⟩:=Wq ag;exact VU j ai hw aj al am ap aq av aw ay ht az a0 a1 hb a2 a3 a4 a5 a6 a7 be hg a8 a9 bb h
abbrev D9:=@JS.app
theorem B2(I:S=S')(K:Aw E H S)(h:Aw E H S'->JL J Q b n L ds todo cs (Ao E H S')):JL J Q b n L ds todo cs (Ao E H S):=by
 subst I;exact h K
theorem Wb(I:Aw E H S)(h:Aw E H (S++ [[]])->JL J Q b n L ds todo cs (Ao E H (S++ [[]]))):JL J Q b n L ds todo cs (Ao E H S):=
 I0 (S':=S++ [[]]) (by rw[Gx,s6]) I h
end
theorem F2.ME{P:Program}{J:Judge P}{f:FuncId}{args:Av_}{s:St}{R:Value->St->Prop}(h:F2 J f args s R)(O:∀v s',R v s'->s'.q=false):F2 J f args s (λv s'=>R v s'/\∃w,Fits s' w):=λQ c cs U=>
 h Q c cs λv s' I=>by
  by_cases K:∃w,Fits s' w;exact U v s' ⟨I,K⟩;exact J.step ⟨V,λw f=>absurd ⟨w,f⟩ K,λe=>by have:=O v s' I;subst e;cases this⟩
abbrev Id:=@F2.ME
def AO(l:List Nat):Nat->Bool:=λx=>l.contains x
variable{oi:Oper}
section
variable {b:Frame}{n m fuel:Nat}
variable {x:Operand}{v:Value}{i:Nat}
def He(ops:Ao_)(listed:Array Bool)(m i:Nat):Bool:=match ops[i]? with
 | some oi=>decide (i<m)&&Region.noSelect ops&& !EP oi.op&&Ks ops listed i oi&&I6 ops listed&&listed.size==ops.size&&(Region.ready .any ops listed).contains i
 | none=>false
theorem dZ(m:Nat){id:Nat}(hm:P.follows .mixedOrders=true)(I:(b.kind != .early)=true)
  (ht:Fg ops m=true) (h:Fg ops m=true->AU J Q b n ds ops k cs m En ops.size (Array.replicate ops.size false) L (Ao E H S)):JL J Q b n L ds (.code (.region id ops true)::k) cs (Ao E H S):=
 Tk m En V hm I (h ht)
theorem Wn{i:Nat}(hi:ops[i]?=some oi)(I:He ops listed m i=true):decide (i<m)=true/\Region.noSelect ops=true/\(!EP oi.op)=true/\Ks ops listed i oi=true/\I6 ops listed=true/\(listed.size==ops.size)=true/\(Region.ready .any ops listed).contains i=true:=by
 simp only[He,hi,f6] at I;obtain⟨⟨⟨⟨⟨⟨K,O⟩,U⟩,Y⟩,Z⟩,ac⟩,ag⟩:=I;exact⟨K,O,U,Y,Z,ac,ag⟩
theorem JG.val(i:Nat)(hi:ops[i]?=some oi)(I:Fg ops m=true)(K:He ops listed m i=true)(O:s.q=false)
  (hw:A9 L ops oi=some true) (U:BC n oi.dst=true) (Y:∀ρ,FV L ρ->∀s':St,(∀x o,(BK D s).E x=some o->s'.E x=some o)->Yl P oi ρ s' v)
  (h:AU J Q b n ds ops k cs m D fuel (Bp listed i) (AG L oi.dst v) s):AU J Q b n ds ops k cs m D (fuel+1) listed L s:=
 let ⟨Z,ac,ag,ai,aj,al,am⟩:=Wn hi K
 b9 hi Z I ac ag ai aj al am O hw U (λρ ap s' _ hs=>Y ρ ap s' hs) h
abbrev IP:=@JG.val
theorem lU(i:Nat)(hi:ops[i]?=some oi)(I:Fg ops m=true)(K:He ops listed m i=true)(O:s.q=false)
  (hw:A9 L ops oi=some false) (U:BC n oi.dst=true)
  (h:AU J Q b n ds ops k cs m D fuel (Bp listed i) (AG L oi.dst undef) s):AU J Q b n ds ops k cs m D (fuel+1) listed L s:=
 let ⟨Y,Z,ac,ag,ai,aj,al⟩:=Wn hi K
 cg hi Y I Z ac ag ai aj al O hw U h
theorem iW{pp:Rp α}{a:Option Addr}{xs:List α}{xv:α}{mm:Int}(i:Nat)(O:Aq pp E a c xs)(I:ix xs mm=some xv)
  (U:ops[i]?=some ⟨d,.indexAddr t x y,ty,p,af,g⟩) (Y:Fg ops m=true) (Z:He ops listed m i=true) (ac:s.q=false)
  (hw:A9 L ops ⟨d,.indexAddr t x y,ty,p,af,g⟩=some true) (ag:BC n d=true)
  (ai:ev L x=some (.slice a xs.length c)) (aj:ev L y=some (.int kd mm)) (ht:P.underlying t=some (.slice e)) (al:BA P e=some pp.n)
  (h:∀bk o ws,pp.r E ws xv->At E bk o ws->AU J Q b n ds ops k cs m D fuel (Bp listed i) (AG L d (.pointer (some ⟨bk,o,none⟩))) s):
  AU J Q b n ds ops k cs m D (fuel+1) listed L s:=by
 obtain⟨mm,rfl,I⟩:=Ge I;have am:mm<xs.length:=(d7.1 I).1;obtain⟨aw,⟨rfl,_⟩ | ⟨bk,off,rfl,ap⟩⟩:=O;simp at am
 refine let⟨ws,aq,av⟩:=ap mm xv I;IP (v:=.pointer (some ⟨bk,off+mm*pp.n,none⟩)) i U Y Z ac hw ag (λρ K s' _=>?_) (h bk _ ws aq av);have:=Om (P:=P) (s:=s') (d:=d) (ty:=ty) (p:=p) (af:=af) (g:=g) ht al (K x _ ai) (K y _ aj) ⟨AB,AB⟩;rw[EO rfl] at this;simpa using this
theorem JG.call{f:FuncId}{vs:Lv_}(U:A2 J f vs E [] R)(Y:Region.ready .any ops listed=[i])
  (Z:ops[i]?=some ⟨d,.call ⟨.value (.func f),args,ats⟩,ty,p,af,g⟩) (ac:BC n d=true) (hw:A9 L ops ⟨d,.call ⟨.value (.func f),args,ats⟩,ty,p,af,g⟩=some true) (hb:ET P f=true) (ag:evs L args.toList=some vs) (ai:Aw E H S)
  (aj:∀v E' seg',Le E E'->R v E' seg'->Aw E' H (S++ [seg'])->AU J Q b n ds ops k cs m En fuel (Bp listed i) (AG L d v) (Ao E' H (S++ [seg']))):
  AU J Q b n ds ops k cs m En (fuel+1) listed L (Ao E H S):=by
 refine have al:=Id (U (Bu S.flatten H) trivial) (by rintro v s' ⟨E',B',_,_,_,rfl⟩;rfl);AU.call V Y Z ac hw hb ag al ?_;rintro v az ⟨⟨E',B',hle,am,ap,rfl⟩,w,aq⟩;have e2:mk E' (Bu S.flatten H) B'=mk E' H (B'++S.flatten):=by unfold mk;rw[G8]
 have av:Nd E' H S.flatten:=Nd.grow ai λx I=>by
  have aw:=aq.d x I;have ay:Bu B' (Bu S.flatten H) x=none:=aw;exact(IW ay).1
 have K:Nd E' H (B'++S.flatten):=EQ ap av;have O:(B'++S.flatten).Perm (S++ [B']).flatten:=by rw[Gx];exact lF
 rw[e2,Gk K O];exact⟨V,λx o I=>hle x o I,aj v E' B' hle am (Cj K O)⟩
abbrev EC:=@JG.call
end
theorem Rt{E H:LH}{S:List Seg}{bk:Nat}{o:Obj}(I:Aw E H S)(hj:S[j]?=some ((bk,o)::seg)):E bk=none:=by
 have hm:(bk,o)∈S.flatten:=uW.2 ⟨_,sU hj,AM⟩;exact((Nd.iff.1 I).2 _ hm).1
def GQ{α:Type}(n:Int)(z:α):Option (List α):=if 0<=n/\n<=2^20 then some (List.replicate n.toNat z) else none
def CK{α:Type}(xs ys:List α):Option (List α):=if xs.length+ys.length<=2^40 then some (xs++ys) else none
def Gr{α:Type}(xs:List α)(lo hi:Int):Option (List α):=if 0<=lo/\lo<=hi/\hi<=xs.length then some ((xs.take hi.toNat).drop lo.toNat) else none
section
variable {x:Operand}{v:Value}{m:Int}{a b:Nat}
end
variable {L':Env}
variable{ax:Option Addr}{cx:Nat}
section
variable {b:Frame}{n:Nat}
variable {x:Operand}{v:Value}{i:Nat}
theorem br{ρ:Operand->Value}:execOp ρ ⟨d,.makeSlice t x y,ty,p,af,g⟩=(do pure (Next.value (← Instr.makeSlice t (ρ x) (ρ y)))):=by
 simp only[execOp]
theorem SC{α:Type}(w:List α):∀m:Nat,((List.replicate m w).flatten).length=m*w.length
 | 0=>by simp
 | m+1=>by rw[uU,tk,sR,SC w m,tZ,wP]
theorem dG(z:Av_)(I:0<z.size):∀m:Nat,((Array.range (m*z.size)).map (z[· % z.size]!)).toList=(List.replicate m z.toList).flatten:=by
 intro m;apply ud;intro j;simp only[we,Array.toList_range,tV];by_cases hj:j<m*z.size
 .rw [wz hj];have O:j/z.size<m:=(Nat.div_lt_iff_lt_mul I).2 hj;have K:j%z.size<z.size:=wn _ I;have hw:(List.replicate m z.toList)[j/z.size]?=some z.toList:=by simp[O]
  have:=Mb (n:=z.size) (wss:=List.replicate m z.toList) (λws U=>by rw[uP U];simp) hw (j%z.size) z[j%z.size] (by simp[K]);rw[show j/z.size*z.size+j%z.size=j from by rw[xg];exact Nat.div_add_mod _ _] at this;rw[this];simp[K]
 .have hlen:((List.replicate m z.toList).flatten).length=m*z.size:=by rw[SC];simp
  rw[tK (by simpa using hj),tK (by rw[hlen];omega)];rfl
theorem JS.make{pp:Rp α}{z:Value}{Y:α}{m:Int}{xs:List α}(O:GQ m Y=some xs)
  (am:ops[i]?=some ⟨d,.makeSlice t x y,ty,p,af,g⟩) (hw:A9 L ops ⟨d,.makeSlice t x y,ty,p,af,g⟩=some true) (ap:Cd b n ⟨d,.makeSlice t x y,ty,p,af,g⟩=true)
  (aq:ev L x=some (iV m)) (U:ev L y=some (iV m)) (ht:P.underlying t=some (.slice e)) (av:BA P e=some pp.n) {K:Nat}(hb:GC P e=some K) (a7:K<=64) (aw:zeroOf P e=some z) (a8:0<pp.n) (Z:pp.r E z.cells.toList Y) (ay:Aw E H S)
  (h:∀r seg,OL e pp E (some ⟨r,0,none⟩) xs.length seg xs->Aw E H (S++ [seg])->JL J Q b n (AG L d (.slice (some ⟨r,0,none⟩) xs.length xs.length)) ds (Ah ops rest k) cs (Ao E H (S++ [seg]))):
  JL J Q b n L ds (Ag ops i rest k) cs (Ao E H S):=by
 unfold GQ at O;split at O
 rotate_left
 .cases O
 rename_i hm;cases O;refine EH am hw ap λρ ac=>?_;rw[br,ac x _ aq,ac y _ U];refine AH _ _ ?_;unfold Instr.makeSlice;refine AH _ _ (C4 ht ?_);simp only[asInt,Jw];refine let⟨inf,az,a0⟩:=S2 hb;AH (x:=typeInfo e) _ (L9 az ?_);simp only[a0,Lt (show -9223372036854775808<=m/\m<=9223372036854775807 by omega)];have a9:(K:Int)*m<=64*2^20:=by
  have ag:(K:Int)*m<=64*m:=Int.mul_le_mul_of_nonneg_right AB hm.1;omega
 have a1:((decide (m<0) || decide ((K:Int)*m>2^48)) || decide (m<0) || decide (m>m))=false:=by
  simp only[Bool.or_eq_false_iff,wa];omega
 rw[a1];simp only[s5,tP];refine AH (x:=askRoom _) _ ?_;have a2:∀{Q:Unit->St->Prop}{X:Halt->St->Prop}(w:Nat),Q () (Ao E H S)->lp P (askRoom w) (Ao E H S) Q X:=by
  intro Q X w ai;unfold askRoom;split;exact⟨.inl ⟨V,V⟩,ai⟩;exact ai
 refine a2 _ (AH (x:=Go.sizeOf e) _ (F4 av ?_));have aj:z.cells.size=pp.n:=by simpa using pp.len Z
 have fin:∀I:Av_,((Array.range (m.toNat*pp.n)).map (I[· % I.size]!)).toList=(List.replicate m.toNat z.cells.toList).flatten->lp P (do let a ← newRow e ((Array.range (m.toNat*pp.n)).map (I[· % I.size]!));pure (Value.slice (some a) m.toNat m.toNat)) (Ao E H S) (λa s'=>lp P (pure (Next.value a)) s' (λa3 s'=>match a3 with
   | .value v=>JL J Q b n (AG L d v) ds (Ah ops rest k) cs s'
   | .skip=>JL J Q b n (AG L d undef) ds (Ah ops rest k) cs s'
   | _=>False) (λ_ _=>False)) (λ_ _=>False):=by
  intro I a4;refine AH _ _ (JC ay λr al=>?_);rw[(Gb al).1];have bb:((Array.range (m.toNat*pp.n)).map (I[· % I.size]!)).size=m.toNat*pp.n:=by simp
  have:=h r _ ⟨List.replicate m.toNat z.cells.toList,.inr ⟨r,_,rfl,rfl,AM,AM,by
   rw[a4,uk (by rw[SC];simp[aj])]⟩,AM,λi y us U hu=>by
    have:=sU U;have a5:=uP this
    have:=sU hu;have e2:=uP this
    subst a5 e2;exact Z⟩ (Gb al).2
  simp only[uw] at this;exact this
 split
 .rename_i a6;have ag:m.toNat=0:=by rcases Nat.mul_eq_zero.1 a6 with h | h<;>omega
  exact fin #[] (by simp[ag])
 .refine AH (x:=zeroValue e) _ (Is aw (fin z.cells ?_));rw[← aj];exact dG z.cells AB _
abbrev E2:=@JS.make
theorem Mo{pp:Rp α}(K:ops[i]?=some ⟨d,.buildSlice t 0 #[],ty,p,af,g⟩)(hw:A9 L ops ⟨d,.buildSlice t 0 #[],ty,p,af,g⟩=some true)(O:Cd b n ⟨d,.buildSlice t 0 #[],ty,p,af,g⟩=true)
  (ht:P.underlying t=some (.slice e)) (U:BA P e=some pp.n) (Y:Aw E H S)
  (h:∀r seg,OL e pp E (some ⟨r,0,none⟩) 0 seg []->Aw E H (S++ [seg])->JL J Q b n (AG L d (.slice (some ⟨r,0,none⟩) 0 0)) ds (Ah ops rest k) cs (Ao E H (S++ [seg]))):
  JL J Q b n L ds (Ag ops i rest k) cs (Ao E H S):=by
 refine EH K hw O λρ ac=>?_;rw[SZ];refine AH _ _ ?_;unfold Instr.buildSlice;refine AH _ _ (C4 ht (AH _ _ (F4 U ?_)));rw[d0 AB,d9 AB];refine AH (x:=pure #[]) _ ?_;simp only[lp,pure,List.map_toArray,wR,Instr.fill];refine AH _ _ (JC Y λr I=>?_);rw[(Gb I).1];exact h r _ ⟨[],.inr ⟨r,_,V,V,AM,jK _,AM⟩,V,λi x ws Z=>by simp at Z⟩ (Gb I).2
theorem Aq.rows{pp:Rp α}{a:Option Addr}{xs:List α}(O:Aq pp E a c xs):∃wss:List (Lv_),wss.length=xs.length/\(∀(i:Nat) x ws,xs[i]?=some x->wss[i]?=some ws->pp.r E ws x)/\
  ((xs=[]/\∀ad:Addr,a=some ad->ad.spot=none∨c=0)∨∃bk off,a=some ⟨bk,off,none⟩/\∀(i:Nat) ws,wss[i]?=some ws->At E bk (off+i*pp.n) ws):=by
 obtain⟨ac,O⟩:=O;rcases O with⟨rfl,Y⟩ | ⟨bk,off,rfl,Z⟩;exact⟨[],V,λi x ws K=>by simp at K,.inl ⟨V,Y⟩⟩
 .have U:∀i:Fin xs.length,∃ws,pp.r E ws xs[i]/\At E bk (off+i*pp.n) ws:=λi=>Z i xs[i] (bZ i.2);refine⟨List.ofFn λi=>Classical.choose (U i),AM,λi x ws K hw=>?_,.inr ⟨bk,off,V,λi ws hw=>?_⟩⟩;have I:i<xs.length:=(d7.1 K).1;simp[I] at hw;subst hw;rw[bZ I] at K;cases K;exact(uh (U ⟨i,I⟩)).1
  .have I:i<xs.length:=by have:=(d7.1 hw).1;simpa using this
   simp[I] at hw;subst hw;exact(uh (U ⟨i,I⟩)).2
theorem Oe{n:Nat}:∀{wss:List (Lv_)},(∀ws∈wss,ws.length=n)->wss.flatten.length=wss.length*n
 | [],_=>by simp
 | ws::wss,h=>by rw[tk,sR,h ws AM,Oe λw hw=>h w (kW _ hw),tb,tZ,wP]
theorem SB{n:Nat}:∀{wss:List (Lv_)},(∀ws∈wss,ws.length=n)->∀{j:Nat}{w:Value},wss.flatten[j]?=some w->∃(i m:Nat) (ws:Lv_),wss[i]?=some ws/\ws[m]?=some w/\j=i*n+m
 | [],_,_,_,h=>by simp at h
 | us::wss,I,j,w,h=>by
  have hu:=I us AM
  rw[tk] at h
  rcases mt j us.length with hj | hj
  .rw [sX hj] at h
   exact⟨0,j,us,V,h,AM⟩
  .rw [sQ hj] at h;let⟨i,m,ws,K,O,U⟩:=SB (λws hw=>I ws (kW _ hw)) h;exact⟨i+1,m,ws,by simpa using K,O,by rw[tZ];omega⟩
theorem PN{pp:Rp α}{K:List (Lv_)}{xs ys:List α}(O:wss.length=xs.length)(h:∀(i:Nat) x ws,xs[i]?=some x->wss[i]?=some ws->pp.r E ws x)(U:∀(i:Nat) x ws,ys[i]?=some x->K[i]?=some ws->pp.r E ws x):
  ∀(i:Nat) y us,(xs++ys)[i]?=some y->(wss++K)[i]?=some us->pp.r E us y:=by
 intro i y us I hu;rcases mt i xs.length with hi | hi;rw[sX hi] at I;rw[sX AB] at hu;exact h i y us I hu;rw[sQ hi] at I;rw[sQ AB,O] at hu;exact U _ y us I hu
theorem aN{e t t1:TypeId}{ap l m:Nat}{a:Option Addr}{blk:List (Nat×Obj)}{xs ys:Lv_}{i:Nat}{rest:List Nat}{d:Option Tmp}{x y:Operand}{ty:TypeId}{p:String}{af:Ae_}{g:On_}{z:Value}{B1:List (Nat×Obj)}
  (a2:ops[i]?=some ⟨d,.call ⟨.builtin .append,#[x,y],ats⟩,ty,p,af,g⟩) (hw:A9 L ops ⟨d,.call ⟨.builtin .append,#[x,y],ats⟩,ty,p,af,g⟩=some true) (a3:Cd b n ⟨d,.call ⟨.builtin .append,#[x,y],ats⟩,ty,p,af,g⟩=true)
  (a4:ev L x=some (.slice a l c)) (a5:ev L y=some (.slice ax m cx)) (a6:ats[0]?=some t) (a7:ats[1]?=some t1) (ht:P.underlying t=some (.slice e)) (a8:P.underlying t1=some (.slice e)) (a9:BA P e=some sz) (hb:GC P e=some ap) (bb:zeroOf P e=some z) (be:z.cells.size=sz)
  (bg:0<ap) (bi:ap<=64) (bn:l+m<=2^40) (bo:∀w∈ys,Dz w=true) (hg:GS e sz a l c blk xs) (aq:Nd E H (B0++blk++B1)) (hs:Jc (mk E H (B0++blk++B1)) (.slice ax m cx) sz ys)
  (h:∀az al av,GS e sz az (l+m) al av (xs++ys)->Nd E H (B0++av)->JL J Q b n (AG L d (.slice az (l+m) al)) ds (Ah ops rest k) cs (mk E H (B0++av))):
  JL J Q b n L ds (Ag ops i rest k) cs (mk E H (B0++blk++B1)):=by
 refine EH a2 hw a3 λρ a0=>?_;rw[Od,a0 x _ a4,a0 y _ a5];have bv:RG (B0++blk++B1) B0.length e sz a l c xs:=by
  rcases hg with⟨I,U,ac,ag,Y⟩ | ⟨bk,f,I,U,ac,ag,Y⟩;exact .inl ⟨I,U,ac,Y⟩;refine .inr ⟨bk,f,I,?_,ac,ag,Y⟩;subst U;simp
 refine have hlen:=hg.length;AH _ _ (S7 (pl:=B0.length) a6 a7 a8 ht a9 hb bb be aq bv hs bo bg bn bi ?_ ?_ ?_)
 ·
  intro bk f K am b2 b3 bw aw ay Z;rcases hg with⟨I,_⟩ | ⟨O,f0,I,U,ac,ag,Y⟩;rw[I] at am;cases am
  .subst U;have bx:O=bk:=by rw[I] at am;simpa using am
   subst bx;have bz:(B0++ [(O,Obj.cells f0 e (0,0))]++B1).set B0.length (O,.cells K e (0,0))=B0++ [(O,.cells K e (0,0))]++B1:=by
    rw[lZ,lZ];exact I2 _ _ _ _
   rw[bz] at Z ⊢;have ai:Nd E H (B0++ [(O,.cells K e (0,0))]):=Lo.Nd.left Z;refine GE (B0++ [(O,.cells K e (0,0))]) (λp aj=>?_) Z (h a c _ (.inr ⟨O,K,I,V,aw,bw,ay.symm⟩) ai);exact tj.1 (tv _ aj)
 .intro a1 hm;rcases hg with⟨I,U,ac,ag,Y⟩ | ⟨O,f0,I,_⟩
  .subst hm;have b0:ys=[]:=by
    cases ax with
    | none=>exact hs.2
    | some ad=>have:=hs.2.1;simp at this;exact this
   subst U ag Y b0;have ai:Nd E H (B0++ []):=Lo.Nd.left aq;exact GE (B0++ []) (λp aj=>tj.1 (tv _ aj)) aq (h none 0 [] (by simpa using GS.nil) ai)
  .rw [I] at a1;cases a1
 ·
  intro r K al b1 aw ay Z;have ai:Nd E H (B0++ [(r,.cells K e (0,0))]):=Lo.Nd.pick Z;refine GE (B0++ [(r,.cells K e (0,0))]) (λp aj=>?_) Z (h (some ⟨r,0,none⟩) al _ (.inr ⟨r,K,V,V,aw,b1,ay.symm⟩) ai);refine tj.1 ?_;rcases sO.1 aj with q | q;simp[q];exact tG _ q
theorem HB{pp:Rp α}{t1:TypeId}{a:Option Addr}{xs ys ai:List α}{z:Value}(j:Nat)(U:CK xs ys=some ai)
  (ay:ops[i]?=some ⟨d,.call ⟨.builtin .append,#[x,y],ats⟩,ty,p,af,g⟩) (hw:A9 L ops ⟨d,.call ⟨.builtin .append,#[x,y],ats⟩,ty,p,af,g⟩=some true) (az:Cd b n ⟨d,.call ⟨.builtin .append,#[x,y],ats⟩,ty,p,af,g⟩=true)
  (a0:ev L x=some (.slice a xs.length c)) (a1:ev L y=some (.slice ax ys.length cx)) (a2:ats[0]?=some t) (a3:ats[1]?=some t1) (ht:P.underlying t=some (.slice e)) (a4:P.underlying t1=some (.slice e)) (a5:BA P e=some pp.n) (hb:GC P e=some ag) (a6:zeroOf P e=some z) (a7:z.cells.size=pp.n)
  (a8:0<ag) (a9:ag<=64) (hg:OL e pp E a c seg xs) (al:Aq pp E ax cx ys) (bb:Aw E H S) (am:S[j]?=some seg)
  (h:∀Y Z seg',OL e pp E Y Z seg' ai->Aw E H (S.set j seg')->JL J Q b n (AG L d (.slice Y ai.length Z)) ds (Ah ops rest k) cs (Ao E H (S.set j seg'))):
  JL J Q b n L ds (Ag ops i rest k) cs (Ao E H S):=by
 unfold CK at U;split at U
 rotate_left
 .cases U
 rename_i be;cases U;obtain⟨wss,hg,ap,bg⟩:=hg;let⟨bi,aq⟩:=HS bb am;obtain⟨ac,K,aj,O⟩:=al.rows;have av:=JF K aj;rw[bi];have bn:∀w∈ac.flatten,Dz w=true:=λw hw=>by
  let⟨us,bo,hw⟩:=uW.1 hw;let⟨q,I⟩:=tj.1 bo;have bv:q<ys.length:=by rw[← K];exact(d7.1 I).1
  exact pp.one (aj q _ us (bZ bv) I) w hw
 have hlen:(xs++ys).length=xs.length+ys.length:=by simp
 have aw:Jc (mk E H ((S.set j []).flatten++seg)) (.slice ax ys.length cx) pp.n ac.flatten:=by
  rcases O with⟨O,b6⟩ | ⟨bk,off,rfl,O⟩
  .subst O;have:ac=[]:=tg K;subst this;cases ax with
   | none=>exact⟨rfl,rfl⟩
   | some ad=>exact⟨.inr rfl,AM,tz _,λq w I=>by simp at I⟩
  .refine⟨.inl V,by rw[Oe av,K],al.1,λq w I=>?_⟩;let⟨bw,m,ws,bx,e2,bz⟩:=SB av I;have:=(O bw ws bx).cell (H:=H) (B:=(S.set j []).flatten++seg) e2;subst bz;rw[← uS];exact this
 have b0:(S.set j []).flatten++seg=(S.set j []).flatten++seg++ []:=(s6 _).symm;rw[b0] at aq aw ⊢;refine aN ay hw az a0 a1 a2 a3 ht a4 a5 hb a6 a7 a8 a9 be bn hg aq aw λY Z b1 b2 b3=>?_;let⟨b4,b5⟩:=Kq am b3;rw[b4];have:=h Y Z b1 ⟨wss++ac,by rw[hlen,ug];exact b2,by simp[ap,K],PN ap bg aj⟩ b5;rw[hlen] at this;exact this
end
section
variable {b:Frame}{n m fuel:Nat}
variable {x:Operand}{v:Value}{i:Nat}
theorem Da(h:Sub L' L)(k':AU J Q b n ds ops k cs m D fuel listed L' s):AU J Q b n ds ops k cs m D fuel listed L s:=λT I=>k' T (I.sub h)
theorem FK{K:Array Bool}(fuel:Nat)(listed:Array Bool)(O:Env->St->Prop)(U:∀L s,O L s->AU J Q b n ds ops k cs m D fuel listed L s)(h:(∀L s,O L s->AU J Q b n ds ops k cs m D fuel listed L s)->AU J Q b n ds ops k cs m D sz K L s):AU J Q b n ds ops k cs m D sz K L s:=h U
theorem JS.cut{pp:Rp α}{a:Option Addr}{xs ys:List α}{lo hi:Int}{olo ohi:Option Operand}(U:Aq pp E a c xs)(hC:Gr xs lo hi=some ys)
  (al:ops[i]?=some ⟨d,.slice t x olo ohi none,ty,p,af,g⟩) (hw:A9 L ops ⟨d,.slice t x olo ohi none,ty,p,af,g⟩=some true) (am:Cd b n ⟨d,.slice t x olo ohi none,ty,p,af,g⟩=true)
  (ap:ev L x=some (.slice a xs.length c)) (K:match ohi with | some w=>ev L w=some (iV hi) | none=>hi=xs.length) (Z:match olo with | some w=>ev L w=some (iV lo) | none=>lo=0) (ht:P.underlying t=some (.slice e)) (aq:BA P e=some pp.n)
  (h:∀ac ag,Aq pp E ac ag ys->JL J Q b n (AG L d (.slice ac ys.length ag)) ds (Ah ops rest k) cs (Ao E H S)):
  JL J Q b n L ds (Ag ops i rest k) cs (Ao E H S):=by
 unfold Gr at hC;split at hC
 rotate_left
 .cases hC
 rename_i hb;obtain⟨a1,a2,av⟩:=hb;cases hC;obtain⟨lo,rfl⟩:∃l:Nat,lo=l:=⟨lo.toNat,AB⟩;obtain⟨hi,rfl⟩:∃l:Nat,hi=l:=⟨hi.toNat,AB⟩;simp only[tt] at*;have a3:=U.1;have hlen:((xs.take hi).drop lo).length=hi - lo:=by simp;omega
 have ai:∀ad:Addr,a=some ad->ad.spot=none∨c=0:=λad I=>by
  rcases U.2 with⟨_,h⟩ | ⟨bk,off,h,_⟩;exact h ad I;rw[h] at I;cases I;exact .inl V
 have aw:Aq pp E (if c=lo then a else a.map (·.add (lo*pp.n))) (c - lo) ((xs.take hi).drop lo):=by
  refine⟨by rw[hlen];omega,?_⟩;by_cases ay:hi - lo=0
  .left;refine⟨tg (by rw[hlen];exact ay),λad I=>?_⟩;split at I;(exact(ai ad I).imp id λh=>by omega)
   .cases a with
    | none=>cases I
    | some az=>
     simp only[uf,tT] at I;subst I;exact .inl (by rw[EO ((ai az rfl).resolve_right (by omega))])
  .right;rcases U.2 with⟨h,_⟩ | ⟨bk,off,rfl,K⟩;subst h;simp at av;omega;refine⟨bk,off+lo*pp.n,?_,λq z O=>?_⟩;rw[d0 AB,uf,EO rfl];rw[vW,ue] at O;split at O;refine let⟨ws,a0,aj⟩:=K _ z O;⟨ws,a0,?_⟩;rw[uG] at aj;rw[uS];exact aj;cases O
 have:=h _ _ aw;rw[hlen] at this;refine Bv al hw am (λρ Y=>?_) this;refine Hn (mx:=c) (hi:=hi) (lo:=lo) ht aq (Y x _ ap) V ?_ ?_ (jK _) AB AB
 .cases ohi with
  | none=>exact⟨by simp only at K;omega,rfl⟩
  | some w=>exact Y w _ K
 .cases olo with
  | none=>simp only at Z;show lo=0;omega
  | some w=>exact Y w _ Z
end
variable{kk:Nat}
theorem mW{pp:Rp α}{E:LH}{bk o:Nat}{ws:Lv_}{xs:List α}{m:Int}{x:α}(K:(rA kk pp).r E ws xs)(h:At E bk o ws)(hm:ix xs m=some x):∃us,pp.r E us x/\At E bk (o+m.toNat*pp.n) us/\0<=m/\m<kk:=by
 obtain⟨O,wss,rfl,U,I⟩:=K;obtain⟨m,rfl,hm⟩:=Ge hm;have Y:m<xs.length:=(d7.1 hm).1;have hw:wss[m]?=some wss[m]:=bZ AB;refine⟨wss[m],I m x _ hm hw,?_,AB,AB⟩;obtain⟨f,e,fr,g1,g2⟩:=h;refine⟨f,e,fr,g1,λj w hj=>?_⟩;rw[uS];exact g2 _ _ (Mb (JF (U.trans O.symm) I) hw j w hj)
variable {v':Value}
section
variable {x:Operand}{v:Value}
end
section
variable {b:Frame}{n:Nat}
variable {x:Operand}{i:Nat}
end
variable{X:Halt->St->Prop}{b':Int}
section
variable {x:Operand}{v:Value}
theorem QQ{t:TypeId}{cells:Av_}{v:Value}(ht:DD P t=some false)(I:cells[off]?=some v){Q:Value->St->Prop}(k:Q v s):lp P (part t cells off) s Q X:=by
 unfold part;refine AH _ _ (Ow ht ?_);simp only[s5,tP,I];exact k
theorem Xb{n:Nat}{t:TypeId}{a b:Int}(ht:P.underlying t=some (.int .i64)){Q:Bool->St->Prop}(k:Q (a==b) s):lp P (Op.equalIn (n+1) t (iV a) (iV b)) s Q X:=by
 unfold Op.equalIn;refine AH _ _ (C4 ht ?_);simp only[tS];exact k
theorem gI{n:Nat}{f1 f2:Field}{a b I:Int}(ht:P.underlying t=some (.struct #[f1,f2]))(hs:P.stoodInHeld t=false)(n1:f1.name≠ "_")(n2:f2.name≠ "_")(u1:P.underlying f1.type=some (.int .i64))(u2:P.underlying f2.type=some (.int .i64))(o1:f1.offset=0)(o2:f2.offset=1)
  {Q:Bool->St->Prop}{X:Halt->St->Prop}(k:Q (decide (a=I/\b=b')) s):lp P (Op.equalIn (n+2) t (.agg #[iV a,iV b]) (.agg #[iV I,iV b'])) s Q X:=by
 unfold Op.equalIn;refine AH _ _ (C4 ht (AH (x:=program) _ ?_));show lp P (if P.stoodInHeld t=true then _ else _) s _ _
 rw[d0 (by rw[hs];exact uz)];have a1:DD P f1.type=some false:=by unfold DD;rw[u1]
 have Y:DD P f2.type=some false:=by unfold DD;rw[u2]
 let bd:Field->Option Bool×Unit->Sem (ForInStep (Option Bool×Unit)):=λf _=>if f.name≠ "_" then do
   if !(← Op.equalIn (n+1) f.type (← part f.type #[iV a,iV b] f.offset) (← part f.type #[iV I,iV b'] f.offset)) then pure (ForInStep.done (some false,())) else pure (ForInStep.yield (none,()))
  else pure (ForInStep.yield (none,()))
 have Z:∀{K:ForInStep (Option Bool×Unit)->St->Prop}(o:Option Bool×Unit),K (if a=I then .yield (none,()) else .done (some false,())) s->lp P (bd f1 o) s K X:=by
  intro K o O;show lp P (if f1.name≠ "_" then _ else _) s K X
  rw[d9 n1,o1];refine AH _ _ (QQ (v:=iV a) a1 V (AH _ _ (QQ (v:=iV I) a1 V (AH _ _ (Xb u1 ?_)))));by_cases h:a=I;subst h;simpa [lp,pure] using O;rw[d0 h] at O;simpa [lp,pure,h] using O
 have ac:∀{K:ForInStep (Option Bool×Unit)->St->Prop}(o:Option Bool×Unit),K (if b=b' then .yield (none,()) else .done (some false,())) s->lp P (bd f2 o) s K X:=by
  intro K o O;show lp P (if f2.name≠ "_" then _ else _) s K X
  rw[d9 n2,o2];refine AH _ _ (QQ (v:=iV b) Y V (AH _ _ (QQ (v:=iV b') Y V (AH _ _ (Xb u2 ?_)))));by_cases h:b=b';subst h;simpa [lp,pure] using O;rw[d0 h] at O;simpa [lp,pure,h] using O
 dsimp only;rw[← vy];simp only[u6,vg];refine AH _ _ (AH _ _ (Z (none,()) ?_));by_cases h:a=I;rw[d9 h];refine AH _ _ (ac (none,()) ?_);by_cases U:b=b';rw[d9 U];simpa [lp,pure,h,U] using k;rw[d0 U];simpa [lp,pure,h,U] using k;rw[d0 h];simpa [lp,pure,h] using k
structure mf (P:Program) (t:TypeId) (f1 f2:Field):Prop where
 ht:P.underlying t=some (.struct #[f1,f2])
 hs:P.stoodInHeld t=false
 hg:P.eqGuardType P.depth t=false
 n1:f1.name≠ "_"
 n2:f2.name≠ "_"
 u1:P.underlying f1.type=some (.int .i64)
 u2:P.underlying f2.type=some (.int .i64)
 o1:f1.offset=0
 o2:f2.offset=1
def Zu(P:Program)(t:TypeId):Prop:=∃f1 f2,mf P t f1 f2
theorem V5{o:BinOp}{c I:Av_}(K:o=.eql∨o=.neq)(hg:P.eqGuardType P.depth t=false){Q:Unit->St->Prop}(k:Q () s):lp P (eqGuard o t x y (.agg c) (.agg I)) s Q X:=by
 rcases K with rfl | rfl<;>(simp[eqGuard,lp,bind,Sem.bind,program,pure,hg];exact k)
theorem eJ{a b I:Int}(K:Zu P t)(O:ρ x=.agg #[iV a,iV b])(U:ρ y=.agg #[iV I,iV b']):Yl P ⟨d,.binOp .neq t x y u,ty,p,af,g⟩ ρ s (.bool (decide (¬(a=I/\b=b')))):=by
 obtain⟨f1,f2,h⟩:=K;refine G7 (sm:=do eqGuard .neq t x y (ρ x) (ρ y);binOp .neq t (ρ x) (ρ y)) V ?_
 rw[O,U];refine AH _ _ (V5 (.inr V) h.hg ?_);have hb:binOp .neq t (.agg #[iV a,iV b]) (.agg #[iV I,iV b'])=(do pure (.bool (!(← Op.equal t (.agg #[iV a,iV b]) (.agg #[iV I,iV b']))))):=V
 rw[hb];refine AH (x:=Op.equal t _ _) _ ?_;unfold Op.equal Op.maxDepth;exact gI h.ht h.hs h.n1 h.n2 h.u1 h.u2 h.o1 h.o2 ⟨AM,V⟩
end
section
variable (J:Judge P)(Q:Gs_)(b:Frame)(n:Nat)(ds:Ld_)(ops:Ao_)(k:Li_)(cs:Lf_)(m:Nat)(D:Nat->Bool)
def Take(fuel:Nat)(listed:Array Bool)(L:Env)(s:St)(i:Nat):Prop:=
 ∃o,ops[i]?=some o/\(!EP o.op)=true/\BC n o.dst=true/\A9 L ops o=some true/\∀ρ,FV L ρ->lp P (execOp ρ o) (BK D s) (λK s'=>match K with
  | .value v=>AU J Q b n ds ops k cs m D fuel (Bp listed i) (AG L o.dst v) (C6 D s s')
  | .skip=>AU J Q b n ds ops k cs m D fuel (Bp listed i) (AG L o.dst undef) (C6 D s s')
  | .enter f args=>∃R,F2 J f args (C6 D s s') R/\∀v I,R v I->I.q=false/\(∀x o,(BK D s).E x=some o->(BK D I).E x=some o)/\AU J Q b n ds ops k cs m D fuel (Bp listed i) (AG L o.dst v) I
  | _=>False) (λ_ _=>False)
end
variable{jp:Nat}
section
variable {b:Frame}{n m fuel:Nat}
variable {x:Operand}{v:Value}{i:Nat}
theorem SG(O:s.q=false){l:List Nat}(I:Region.ready .any ops listed=l)(U:l≠ [])(h:∀i∈l,Take J Q b n ds ops k cs m D fuel listed L s i):AU J Q b n ds ops k cs m D (fuel+1) listed L s:=
 WY O (by rw[I];exact U) λi hi o K=>by
  rw[I] at hi
  let⟨o',Y,Z,ac,ag,ai⟩:=h i hi
  obtain rfl:o'=o:=by rw[Y] at K;exact f8 K
  exact⟨Z,ac,true,ag,λe=>(by cases e),λ_=>ai⟩
theorem JG.one(I:s.q=false)(K:Region.ready .any ops listed=[i])(h:Take J Q b n ds ops k cs m D fuel listed L s i):AU J Q b n ds ops k cs m D (fuel+1) listed L s:=
 SG I K AM (by simpa using h)
abbrev BF:=@JG.one
theorem FB{i:Nat}(I:s.q=false)(K:Region.ready .any ops listed=[i,j])(hi:Take J Q b n ds ops k cs m D fuel listed L s i)(hj:Take J Q b n ds ops k cs m D fuel listed L s j):AU J Q b n ds ops k cs m D (fuel+1) listed L s:=
 SG I K AM (by intro q I;simp at I;rcases I with rfl | rfl<;>assumption)
def plus(E:LH)(bk:Nat)(o:Obj):LH:=λx=>if x=bk then Option.some o else E x
theorem il{bk:Nat}{o:Obj}(Z:Aw E H S)(ac:S[jp]?=Option.some [(bk,o)]):BK (AO [bk]) (Ao E H S)=Ao (plus E bk o) H (S.set jp [])/\Aw (plus E bk o) H (S.set jp []):=by
 let⟨ai,U⟩:=HS Z ac;have Y:=Nd.iff.1 U;have aq:E bk=Option.none:=(Y.2 (bk,o) AM).1;have aj:H bk=Option.none:=(Y.2 (bk,o) AM).2;have ag:∀q∈(S.set jp []).flatten,q.1≠bk:=λq K e=>by
  have:=Y.1;rw[tE,tU] at this;exact this.2.2 q.1 (vl K) bk AM e
 have al:(Ao E H S).get bk=Option.some o:=Ew (i:=0) Z ac V;have am:∀x,x≠bk->Bu ((S.set jp []).flatten++ [(bk,o)]) H x=Bu (S.set jp []).flatten H x:=λx I=>by
  rw[show Bu ((S.set jp []).flatten++ [(bk,o)]) H=Bu ([(bk,o)]++(S.set jp []).flatten) H from Oh U lF];simp[Bu,I]
 refine⟨?_,?_⟩
 .unfold BK;have ap:(λx=>if AO [bk] x=true then(Ao E H S).get x else(Ao E H S).E x)=plus E bk o:=by
   funext x;unfold plus;by_cases I:x=bk;subst I;simp[AO,al];simp[AO,I];rfl
  have e2:(λx=>if AO [bk] x=true then Option.none else(Ao E H S).H x)=Bu (S.set jp []).flatten H:=by
   funext x;by_cases I:x=bk;subst I;simp[AO];rw[Ol ag,aj];simp only[AO,List.contains_cons,List.contains_nil,Bool.or_false,uI,d0 I];rw[ai];exact am x I
  rw[ap,e2];rfl
 .have O:Nd E H (S.set jp []).flatten:=Lo.Nd.left U;show Nd _ H (S.set jp []).flatten;rw[Ea] at O ⊢;exact⟨O.1,λq K=>⟨by unfold plus;rw[d0 (ag q K)];exact(O.2 q K).1,(O.2 q K).2⟩⟩
theorem b7{bk:Nat}{o:Obj}(al:Aw E H S)(am:S[jp]?=Option.some [(bk,o)])(ap:Aw (plus E bk o) H S')(U:S'[jp]?=Option.some []):C6 (AO [bk]) (Ao E H S) (Ao (plus E bk o) H S')=Ao E H (S'.set jp [(bk,o)])/\Aw E H (S'.set jp [(bk,o)]):=by
 let⟨aq,ac⟩:=HS al am;have ag:=Nd.iff.1 ac;have av:E bk=Option.none:=(ag.2 (bk,o) AM).1;have aw:H bk=Option.none:=(ag.2 (bk,o) AM).2;have Y:(S'.set jp []).flatten=S'.flatten:=by
  have:S'.set jp []=S':=by
   apply ud;intro q;rw[tD];split;rename_i e;subst e;rw[U,d9 (d7.1 U).1];rfl
  rw[this]
 have O:=Nd.iff.1 (show Nd _ H S'.flatten from ap);have ai:∀q∈S'.flatten,q.1≠bk:=λq I e=>by
  have:=(O.2 q I).1;unfold plus at this;rw[d9 e] at this;cases this
 have Z:Nd E H ((S'.set jp []).flatten++ [(bk,o)]):=by
  rw[Y,Ea,tE,tU];refine⟨⟨O.1,AM,λx K y aj e=>?_⟩,λq I=>?_⟩;obtain⟨q,I,rfl⟩:=tn.1 K;simp at aj;subst aj;exact ai q I e
  .rcases sO.1 I with I | I
   .refine⟨?_,(O.2 q I).2⟩;have:=(O.2 q I).1;unfold plus at this
    rwa[d0 (ai q I)] at this
   .simp at I;subst I;exact⟨av,aw⟩
 refine let⟨ay,az⟩:=Kq (seg':=[(bk,o)]) U Z;⟨?_,az⟩;rw[← ay,Y];unfold C6 Ao mk;congr 1
 .funext x;show(if AO [bk] x=true then E x else plus E bk o x)=E x
  by_cases K:x=bk;subst K;simp[AO];simp[AO,K,plus]
 .funext x;show(if AO [bk] x=true then(Ao E H S).H x else Bu S'.flatten H x)=Bu (S'.flatten++ [(bk,o)]) H x
  have a0:Bu (S'.flatten++ [(bk,o)]) H=Bu ([(bk,o)]++S'.flatten) H:=Oh (by rw[Y] at Z;exact Z) lF;rw[a0];by_cases K:x=bk;subst K;simp only[AO,List.contains_cons,beq_self_eq_true,Bool.true_or,tS,tH,tB,Bu];rw[aq];show Bu ((S.set jp []).flatten++ [(x,o)]) H x=_;rw[show Bu ((S.set jp []).flatten++ [(x,o)]) H=Bu ([(x,o)]++(S.set jp []).flatten) H from Oh ac lF];simp[Bu];simp[AO,K,Bu]
end
theorem OL.l8{e:TypeId}{pp:Rp α}{E H:LH}{S:List Seg}{a:Option Addr}{xs:List α}(hg:OL e pp E0 a c seg xs)(Y:Aw E H S)(Z:S[j]?=some seg):∃wss:List (Lv_),Jc (Ao E H S) (.slice a xs.length c) pp.n wss.flatten/\wss.length=xs.length/\∀(i:Nat) x ws,xs[i]?=some x->wss[i]?=some ws->pp.r E0 ws x:=by
 obtain⟨wss,hg,ac,ag⟩:=hg;refine⟨wss,?_,ac,ag⟩;rcases hg with⟨rfl,ai,U,O,I⟩ | ⟨bk,f,rfl,rfl,U,O,I⟩;exact⟨ai,I⟩
 .have hle:xs.length*pp.n<=f.size:=by rw[U];exact tJ _ O
  refine⟨.inl V,by rw[I];simp[hle],O,λq w K=>?_⟩;rw[I,ue] at K;split at K;refine Cc Y Z ?_;simpa using K;cases K
section
variable {x:Operand}
theorem Xs{ρ:Operand->Value}{pp:Rp α}{t1:TypeId}{aw:Nat}{a:Option Addr}{xs ys ay:List α}{z:Value}(j:Nat)(ap:CK xs ys=some ay)
  (a9:ρ x=.slice a xs.length c) (bb:ρ y=.slice ax ys.length cx) (be:ats[0]?=some t) (bg:ats[1]?=some t1) (ht:P.underlying t=some (.slice e)) (bi:P.underlying t1=some (.slice e)) (bn:BA P e=some pp.n) (hb:GC P e=some aw) (bo:zeroOf P e=some z) (bv:z.cells.size=pp.n)
  (bw:0<aw) (bx:aw<=64) (hg:OL e pp E0 a c seg xs) (bz:∃Y:List (Lv_),Jc (Ao E H S) (.slice ax ys.length cx) pp.n Y.flatten/\Y.length=ys.length/\∀(i:Nat) x ws,ys[i]?=some x->Y[i]?=some ws->pp.r E0 ws x) (b0:Aw E H S) (a4:S[j]?=some seg)
  (h:∀U I g seg',OL e pp E0 U I seg' ay->Aw E H (S.set j (g++seg'))->K (.value (.slice U ay.length I)) (Ao E H (S.set j (g++seg')))):
  lp P (execOp ρ ⟨d,.call ⟨.builtin .append,#[x,y],ats⟩,ty,p,af,g⟩) (Ao E H S) K (λ_ _=>False):=by
 unfold CK at ap;split at ap
 rotate_left
 .cases ap
 rename_i b1;cases ap;obtain⟨Y,a5,aq,az⟩:=bz;obtain⟨wss,hg,a6,b2⟩:=hg;let⟨b3,a0⟩:=HS b0 a4;have b4:=JF aq az;have b5:∀w∈Y.flatten,Dz w=true:=λw hw=>by
  let⟨us,b6,hw⟩:=uW.1 hw;let⟨q,a7⟩:=tj.1 b6;have ca:q<ys.length:=by rw[← aq];exact(d7.1 a7).1
  exact pp.one (az q _ us (bZ ca) a7) w hw
 have hlen:(xs++ys).length=xs.length+ys.length:=by simp
 rw[b3] at a5 ⊢;rw[Od,a9,bb];have a1:∀{U I seg'},GS e pp.n U (xs.length+ys.length) I seg' (wss.flatten++Y.flatten)->OL e pp E0 U I seg' (xs++ys):=λcc=>
  ⟨wss++Y,by rw[hlen,ug];exact cc,by simp[a6,aq],PN a6 b2 az⟩
 have fin:∀U I g seg',OL e pp E0 U I seg' (xs++ys)->Nd E H ((S.set j []).flatten++(g++seg'))->K (.value (.slice U (xs.length+ys.length) I)) (mk E H ((S.set j []).flatten++(g++seg'))):=λU I g seg' ce ac=>by
  let⟨ci,co⟩:=Kq a4 ac;rw[ci];have:=h U I g seg' ce co;rw[hlen] at this;exact this
 have cp:RG ((S.set j []).flatten++seg) (S.set j []).flatten.length e pp.n a xs.length c wss.flatten:=by
  rcases hg with⟨O,Z,am,ai,aj⟩ | ⟨bk,f,O,Z,am,ai,aj⟩;exact .inl ⟨O,Z,am,aj⟩;refine .inr ⟨bk,f,O,?_,am,ai,aj⟩;subst Z;simp
 refine AH _ _ (S7 (pl:=(S.set j []).flatten.length) be bg bi ht bn hb bo bv a0 cp a5 b5 bw b1 bx ?_ ?_ ?_)
 .intro bk f ag av c4 c5 ct a2 a3 ac;rcases hg with⟨O,_⟩ | ⟨al,f0,O,Z,am,ai,aj⟩;rw[O] at av;cases av
  .subst Z;have cw:al=bk:=by rw[O] at av;simpa using av
   subst cw;have cy:((S.set j []).flatten++ [(al,Obj.cells f0 e (0,0))]).set (S.set j []).flatten.length (al,.cells ag e (0,0))=(S.set j []).flatten++ [(al,.cells ag e (0,0))]:=I2 _ _ _ _;rw[cy] at ac ⊢;exact fin a c [] _ (a1 (.inr ⟨al,ag,O,V,a2,ct,a3.symm⟩)) ac
 intro a8 hm;rcases hg with⟨O,Z,am,ai,aj⟩ | ⟨al,f0,O,_⟩;have c0:Y.flatten=[]:=tg (by rw[Oe b4,aq,hm];simp);have:=fin none 0 [] [] (a1 (by rw[Z,hm,aj,c0];exact GS.nil)) (by rw[ai] at a0;simpa using a0);rw[Z,hm] at this;rw[ai];simp only[s6] at this ⊢;exact this;rw[O] at a8;cases a8;intro r ag I c2 a2 a3 ac;have c3:(S.set j []).flatten++seg++ [(r,Obj.cells ag e (0,0))]=(S.set j []).flatten++(seg++ [(r,.cells ag e (0,0))]):=lZ _ _ _;rw[c3] at ac ⊢;exact fin (some ⟨r,0,none⟩) I seg _ (a1 (.inr ⟨r,ag,V,V,a2,c2,a3.symm⟩)) ac
theorem gv{ρ:Operand->Value}{pp:Rp α}{t1:TypeId}{a:Option Addr}{U:Seg}{xs ys O:List α}{z:Value}(j ag:Nat)(ai:CK xs ys=some O)
  (aj:ρ x=.slice a xs.length c) (al:ρ y=.slice ax ys.length cx) (am:ats[0]?=some t) (ap:ats[1]?=some t1) (ht:P.underlying t=some (.slice e)) (aq:P.underlying t1=some (.slice e)) (av:BA P e=some pp.n) (hb:GC P e=some sz) (aw:zeroOf P e=some z) (ay:z.cells.size=pp.n)
  (az:0<sz) (a0:sz<=64) (hg:OL e pp E0 a c seg xs) (a1:OL e pp E0 ax cx U ys) (Y:Aw E H S) (a2:S[j]?=some seg) (a3:S[ag]?=some U)
  (h:∀Z ac g seg',OL e pp E0 Z ac seg' O->Aw E H (S.set j (g++seg'))->K (.value (.slice Z O.length ac)) (Ao E H (S.set j (g++seg')))):
  lp P (execOp ρ ⟨d,.call ⟨.builtin .append,#[x,y],ats⟩,ty,p,af,g⟩) (Ao E H S) K (λ_ _=>False):=
 Xs j ai aj al am ap ht aq av hb aw ay az a0 hg (a1.l8 Y a3) Y a2 h
end
section
variable {b:Frame}{n m fuel:Nat}
variable {x:Operand}{v:Value}{i:Nat}
theorem Take.BK{bk:Nat}{o:Obj}(K:Aw E H S)(O:S[jp]?=some [(bk,o)])(hi:ops[i]?=some oi)(I:(!EP oi.op&&BC n oi.dst)=true)(hw:A9 L ops oi=some true)
  (h:∀ρ,FV L ρ->Aw (plus E bk o) H (S.set jp [])->lp P (execOp ρ oi) (Ao (plus E bk o) H (S.set jp [])) (λU s'=>∃v S',U=.value v/\s'=Ao (plus E bk o) H S'/\Aw (plus E bk o) H S'/\S'[jp]?=some []/\
   (Aw E H (S'.set jp [(bk,o)])->AU J Q b n ds ops k cs m (AO [bk]) fuel (Bp listed i) (AG L oi.dst v) (Ao E H (S'.set jp [(bk,o)])))) (λ_ _=>False)):
  Take J Q b n ds ops k cs m (AO [bk]) fuel listed L (Ao E H S) i:=by
 simp only[f6] at I;refine⟨oi,hi,I.1,I.2,hw,λρ Y=>?_⟩;let⟨Z,ac⟩:=il K O;rw[Z];refine Fy _ (h ρ Y ac) ?_ (λ_ _ h=>h);rintro U s' ⟨v,S',rfl,rfl,ag,ai,aj⟩;let⟨al,am⟩:=b7 K O ag ai;show AU J Q b n ds ops k cs m (AO [bk]) fuel (Bp listed i) (AG L oi.dst v) (C6 (AO [bk]) (Ao E H S) (Ao (plus E bk o) H S'));rw[al];exact aj am
end
section
variable {b:Frame}{n m fuel:Nat}
variable {x:Operand}{v:Value}{i:Nat}
theorem Take.MT(hi:ops[i]?=some oi)(I:(!EP oi.op&&BC n oi.dst)=true)(hw:A9 L ops oi=some true)
  (h:∀ρ,FV L ρ->lp P (execOp ρ oi) s (λK s'=>match K with
   | .value v=>AU J Q b n ds ops k cs m En fuel (Bp listed i) (AG L oi.dst v) s'
   | .skip=>AU J Q b n ds ops k cs m En fuel (Bp listed i) (AG L oi.dst undef) s'
   | _=>False) (λ_ _=>False)):Take J Q b n ds ops k cs m En fuel listed L s i:=by
 simp only[f6] at I
 refine⟨oi,hi,I.1,I.2,hw,λρ U=>Fy _ (h ρ U) ?_ (λ_ _ h=>h)⟩
 intro K s' O
 cases K with
 | value v=>exact O
 | skip=>exact O
 | _=>exact O.elim
abbrev Fa:=@Take.MT
theorem Take.DK{pp:Rp α}(vs:Lv_){z:Value}(xs:List α)(I:Aw E H S)
  (K:ops[i]?=some ⟨d,.buildSlice t sz ps,ty,p,af,g⟩) (hw:A9 L ops ⟨d,.buildSlice t sz ps,ty,p,af,g⟩=some true) (O:BC n d=true)
  (ht:P.underlying t=some (.slice e)) (U:BA P e=some pp.n) (Y:zeroOf P e=some z) (Z:decide (0<sz*pp.n/\sz*pp.n<=2^24)=true)
  (ac:ps.toList.mapM (λq=>(ev L q.2).map λv=>(q.1,v))=some ((vs.zipIdx 0).map λq=>(q.2,q.1)))
  (ag:vs.length=sz) (ai:xs.length=sz) (aj:MB pp E xs vs)
  (h:∀r seg,OL e pp E (some ⟨r,0,none⟩) sz seg xs->Aw E H (S++ [seg])->AU J Q b n ds ops k cs m En fuel (Bp listed i) (AG L d (.slice (some ⟨r,0,none⟩) xs.length sz)) (Ao E H (S++ [seg]))):
  Take J Q b n ds ops k cs m En fuel listed L (Ao E H S) i:=
 Fa K (by simp[EP,O]) hw λρ al=>YT al vs xs ht U Y Z ac ag ai aj I λr seg am ap=>h r seg am ap
abbrev Bi:=@Take.DK
theorem Take.app0{pp:Rp α}{t1:TypeId}{a:Option Addr}{Y:Seg}{xs ys U:List α}{z:Value}(j Z:Nat)(ag:Aw E H S)(ai:CK xs ys=some U)
  (aj:ops[i]?=some ⟨d,.call ⟨.builtin .append,#[x,y],ats⟩,ty,p,af,g⟩) (hw:A9 L ops ⟨d,.call ⟨.builtin .append,#[x,y],ats⟩,ty,p,af,g⟩=some true) (al:BC n d=true)
  (am:ev L x=some (.slice a xs.length c)) (ap:ev L y=some (.slice ax ys.length cx)) (aq:ats[0]?=some t) (av:ats[1]?=some t1) (ht:P.underlying t=some (.slice e)) (aw:P.underlying t1=some (.slice e)) (ay:BA P e=some pp.n) (hb:GC P e=some sz) (az:zeroOf P e=some z) (a0:z.cells.size=pp.n)
  (a1:0<sz) (a2:sz<=64) (hg:OL e pp E a c seg xs) (a3:OL e pp E ax cx Y ys) (a4:S[j]?=some seg) (a5:S[Z]?=some Y)
  (h:∀I K g seg',OL e pp E I K seg' U->Aw E H (S.set j (g++seg'))->AU J Q b n ds ops k cs m En fuel (Bp listed i) (AG L d (.slice I U.length K)) (Ao E H (S.set j (g++seg')))):
  Take J Q b n ds ops k cs m En fuel listed L (Ao E H S) i:=
 Fa aj (by simp[EP,al]) hw λρ ac=>gv j Z ai (ac _ _ am) (ac _ _ ap) aq av ht aw ay hb az a0 a1 a2 hg a3 ag a4 a5 λI K a6 seg' a7 a8=>h I K a6 seg' a7 a8
abbrev D1:=@Take.app0
theorem Take.K1{z:Value}(K:Aw E H S)(O:ops[i]?=some ⟨d,.alloc e,ty,p,af,g⟩)(hw:A9 L ops ⟨d,.alloc e,ty,p,af,g⟩=some true)(U:BC n d=true)(Y:zeroOf P e=some z)
  (h:∀r,Aw E H (S++ [[(r,.cells z.cells e (0,0))]])->AU J Q b n ds ops k cs m En fuel (Bp listed i) (AG L d (.pointer (some ⟨r,0,none⟩))) (Ao E H (S++ [[(r,.cells z.cells e (0,0))]]))):
  Take J Q b n ds ops k cs m En fuel listed L (Ao E H S) i:=
 Fa O (by simp[EP,U]) hw λρ _=>by
  show lp P (do pure (Next.value (← Instr.alloc e true (.tuple #[])))) _ _ _
  refine AH _ _ ?_
  unfold Instr.alloc
  refine AH _ _ (Is Y ?_)
  refine AH _ _ (JC K λr I=>?_)
  rw[(Gb I).1]
  exact h r (Gb I).2
abbrev Eb:=@Take.K1
end
theorem C5{pp:Rp α}{E:LH}{ws:Lv_}{xs:List α}(I:(rA kk pp).r E ws xs):ws.length=kk*pp.n:=(rA kk pp).len I
theorem IZ{pp:Rp α}{E:LH}{ws:Lv_}{xs:List α}{m:Int}{x:α}(K:(rA kk pp).r E ws xs)(hm:ix xs m=some x):∃us,pp.r E us x/\0<=m/\m<kk/\(∀j w,us[j]?=some w->ws[m.toNat*pp.n+j]?=some w):=by
 obtain⟨O,wss,rfl,U,I⟩:=K;obtain⟨m,rfl,hm⟩:=Ge hm;have Y:m<xs.length:=(d7.1 hm).1;have hw:wss[m]?=some wss[m]:=bZ AB;exact⟨wss[m],I m x _ hm hw,AB,AB,λj w hj=>Mb (JF (U.trans O.symm) I) hw j w hj⟩
section
variable {b:Frame}{n:Nat}
variable {x:Operand}{i:Nat}
theorem JE{pp:Rp α}{a:Addr}{ws:Lv_}{xs:List α}(I:(rA kk pp).r E ws xs)(ht:DD P t=some true)(K:BA P t=some (kk*pp.n))(O:ρ x=.pointer (some a))(h:∀j v,ws[j]?=some v->s.cell? (a.add j)=some v):Yl P ⟨d,.load t x,ty,p,af,g⟩ ρ s (.agg ws.toArray):=
 I1 ht (by rw[C5 I];exact K) O h
theorem Yx{pp:Rp α}{ws:Lv_}{xs:List α}{xv:α}{m:Int}{wr:Bool}(U:(rA kk pp).r E ws xs)(hm:ix xs m=some xv)
  (aj:ops[i]?=some ⟨d,.index t x y,ty,p,af,g⟩) (hw:A9 L ops ⟨d,.index t x y,ty,p,af,g⟩=some true) (al:Cd b n ⟨d,.index t x y,ty,p,af,g⟩=true)
  (am:ev L x=some (.agg ws.toArray)) (ap:ev L y=some (.int kd m)) (ht:P.underlying t=some (.array kk e)) (Y:BA P e=some pp.n) (aq:DD P e=some wr)
  (h:∀us,pp.r E us xv->JL J Q b n (AG L d (if wr then .agg us.toArray else us.headD undef)) ds (Ah ops rest k) cs s) (av:wr=false->pp.n=1):
  JL J Q b n L ds (Ag ops i rest k) cs s:=by
 refine let⟨us,Z,aw,ay,ac⟩:=IZ U hm;have hlen:=pp.len Z;have az:=C5 U;Bv aj hw al (λρ ag=>?_) (h us Z);refine G7 (sm:=Instr.index t (ρ x) (ρ y)) V ?_;rw[ag _ _ am,ag _ _ ap];unfold Instr.index;simp only[asIntOf,Jw];refine AH (x:=underlying t) _ (C4 ht ?_);simp only[aw,ay,and_self,tS];refine AH (x:=Go.sizeOf e) _ (F4 Y ?_);unfold Go.part;refine AH (x:=isAgg e) _ (Ow aq ?_);have a1:m.toNat*pp.n+pp.n<=ws.length:=by
  rw[az];have:(m.toNat+1)*pp.n<=kk*pp.n:=tJ _ AB;rw[tZ] at this;exact this
 cases wr with
 | true=>
  simp only[tS];refine AH (x:=Go.sizeOf e) _ (F4 Y ?_);have a0:ws.toArray.extract (m.toNat*pp.n) (m.toNat*pp.n+pp.n)=us.toArray:=by
   apply tY;intro j;by_cases hj:j<us.length;have O:=ac j us[j] (bZ hj);simp only[wc,uR,tq];rw[d9 AB,O];simp[hj];rw[ta AP,ta AP]
  rw[a0];exact⟨V,V⟩
 | false=>
  have ai:=av V;obtain⟨w,rfl⟩:∃w,us=[w]:=by
   match us,hlen with
   | [w],_=>exact⟨w,rfl⟩
   | [],I=>rw[ai] at I;cases I
   | _::_::_,I=>rw[ai] at I;simp at I
  have O:=ac 0 w V;simp only[s5,tP,tq];rw[tQ] at O;rw[O];exact⟨V,V⟩
end
theorem OL.ni{e:TypeId}{pp:Rp α}{E:LH}{a:Option Addr}{xs:List α}{m:Int}{x:α}(hg:OL e pp E a c seg xs)(hm:ix xs m=some x):
  ∃bk f ws,a=some ⟨bk,0,none⟩/\seg=[(bk,.cells f e (0,0))]/\pp.r E ws x/\(∀j w,ws[j]?=some w->f[m.toNat*pp.n+j]?=some w):=by
 obtain⟨m,rfl,hm⟩:=Ge hm;let⟨bk,f,ws,I,K,O,U,_⟩:=E8 hg hm;exact⟨bk,f,ws,I,K,O,U⟩
def IA(S:List Seg):List Nat->Prop
 | []=>True
 | bk::bks=>(∃(j:Nat) (o:Obj),S[j]?=some [(bk,o)])/\IA S bks
theorem IA.mem{S:List Seg}:∀{bks:List Nat},IA S bks->∀bk∈bks,∃(j:Nat) (o:Obj),S[j]?=some [(bk,o)]
 | [],_,_,h=>by cases h
 | b::bks,h,bk,hb=>by
  rcases ja.1 hb with rfl | hb;exact h.1;exact h.2.mem bk hb
variable{bks:List Nat}
theorem IA.free{E H:LH}{S:List Seg}(h:IA S bks)(I:Aw E H S):∀x,AO bks x=true->E x=none:=λx K=>by
 obtain⟨j,o,hj⟩:=h.mem x (by simpa [AO] using K)
 exact Rt I hj
variable{s':St}
section
variable {b:Frame}{n m fuel:Nat}
variable {x:Operand}{v:Value}{i:Nat}
theorem Xa{f:FuncId}{vs:Lv_}(ag:IA S bks)(ai:A2 J f vs E [] R)(aj:Region.ready .any ops listed=[i])
  (al:ops[i]?=some ⟨d,.call ⟨.value (.func f),args,ats⟩,ty,p,af,g⟩) (am:BC n d=true) (hw:A9 L ops ⟨d,.call ⟨.value (.func f),args,ats⟩,ty,p,af,g⟩=some true) (hb:ET P f=true) (ap:evs L args.toList=some vs) (U:Aw E H S)
  (aq:∀v E' seg',Le E E'->R v E' seg'->Aw E' H (S++ [seg'])->AU J Q b n ds ops k cs m (AO bks) fuel (Bp listed i) (AG L d v) (Ao E' H (S++ [seg']))):
  AU J Q b n ds ops k cs m (AO bks) (fuel+1) listed L (Ao E H S):=by
 refine have av:=Id (ai (Bu S.flatten H) trivial) (by rintro v s' ⟨E',B',_,_,_,rfl⟩;rfl);AU.call V aj al am hw hb ap av ?_;rintro v a4 ⟨⟨E',B',hle,aw,ay,rfl⟩,w,az⟩;have e2:mk E' (Bu S.flatten H) B'=mk E' H (B'++S.flatten):=by unfold mk;rw[G8]
 have a0:Nd E' H S.flatten:=Nd.grow U λx K=>by
  have a1:=az.d x K;have O:Bu B' (Bu S.flatten H) x=none:=a1;exact(IW O).1
 have Y:Nd E' H (B'++S.flatten):=EQ ay a0;have Z:(B'++S.flatten).Perm (S++ [B']).flatten:=by rw[Gx];exact lF
 have ac:Aw E' H (S++ [B']):=Cj Y Z;rw[e2,Gk Y Z];refine⟨V,λx o K=>?_,aq v E' B' hle aw ac⟩;by_cases hd:AO bks x=true
 .obtain⟨j,o',hj⟩:=ag.mem x (by simpa [AO] using hd);have O:(Ao E H S).get x=some o':=Ew (i:=0) U hj V;have a2:j<S.length:=(d7.1 hj).1;have a3:(Ao E' H (S++ [B'])).get x=some o':=Ew (i:=0) ac (by rw[sX a2];exact hj) rfl;have I:(if AO bks x then(Ao E H S).get x else E x)=some o:=K
  show(if AO bks x then(Ao E' H (S++ [B'])).get x else E' x)=some o
  rw[d9 hd] at I ⊢;rw[a3,← O];exact I
 .have I:(if AO bks x then(Ao E H S).get x else E x)=some o:=K
  show(if AO bks x then(Ao E' H (S++ [B'])).get x else E' x)=some o
  rw[d0 hd] at I ⊢;exact hle _ _ I
theorem dw(m:Nat)(bks:List Nat){id:Nat}(K:IA S bks)(O:Aw E H S)(hm:P.follows .mixedOrders=true)(I:(b.kind != .early)=true)(ht:Fg ops m=true)
  (h:Fg ops m=true->AU J Q b n ds ops k cs m (AO bks) ops.size (Array.replicate ops.size false) L (Ao E H S)):JL J Q b n L ds (.code (.region id ops true)::k) cs (Ao E H S):=
 Tk m (AO bks) V hm I (h ht)
theorem ES{bk o:Nat}{c:Av_}{f:Nat×Nat}(j:Nat)(I:Aw E H S)(K:S[j]?=some [(bk,.cells c e f)])(O:AO bks bk=true)(hs:∀x o,(BK (AO bks) (Ao E H S)).E x=some o->s'.E x=some o)(hw:c[o]?=some w):s'.cell? ⟨bk,o,none⟩=some w:=by
 have U:(BK (AO bks) (Ao E H S)).E bk=some (.cells c e f):=by
  show(if AO bks bk then(Ao E H S).get bk else E bk)=_
  rw[d9 O];exact Ew (i:=0) I K V
 have Y:=hs _ _ U;unfold St.cell? St.get;rw[Y];exact hw
theorem lO(K:Aw E H S)(hs:∀x o,(BK (AO bks) (Ao E H S)).E x=some o->s'.E x=some o)(O:IA S bks):∀x o,E x=some o->s'.E x=some o:=λx o I=>hs x o (by
 show(if AO bks x then(Ao E H S).get x else E x)=some o
 rw[d0 (λhd=>by rw[O.free K x hd] at I;cases I)];exact I)
end
theorem Tj{P:Program}{s:St}{ρ:Operand->Value}{x y:Operand}{d:Option Tmp}{t ty e:TypeId}{p:String}{af:Ae_}{g:On_}{kd:IntKind}{xs:List α}{xv:α}{m:Int}{bk:Nat}(hm:ix xs m=some xv)(ht:P.underlying t=some (.slice e))(I:BA P e=some sz)(K:ρ x=.slice (some ⟨bk,0,none⟩) xs.length c)(O:ρ y=.int kd m):
  Yl P ⟨d,.indexAddr t x y,ty,p,af,g⟩ ρ s (.pointer (some ⟨bk,m.toNat*sz,none⟩)):=by
 obtain⟨m,rfl,hm⟩:=Ge hm;have U:m<xs.length:=(d7.1 hm).1;have:=Om (P:=P) (s:=s) (d:=d) (ty:=ty) (p:=p) (af:=af) (g:=g) ht I K O ⟨AB,AB⟩;rw[EO rfl] at this;simpa using this
def JY(ws:Lv_)(q:Nat)(us:Lv_):Lv_:=(Be ws.toArray q us).toList
theorem P0{ws us:Lv_}{q:Nat}(h:q+us.length<=ws.length)(j:Nat):(JY ws q us)[j]?=if q<=j/\j<q+us.length then us[j - q]? else ws[j]? :=by
 unfold JY;rw[tN,Oo us _ q (by simpa using h)];simp
variable{l:Lv_}
theorem aK{ws us:Lv_}{q:Nat}(h:q+us.length<=ws.length):Be (l++ws).toArray (l.length+q) us=(l++JY ws q us).toArray:=by
 apply tY;intro j;rw[Oo us _ _ AP];simp only[tq];by_cases K:l.length+q<=j/\j<l.length+q+us.length;rw[d9 K,sQ AB,P0 h,d9 AB];congr 1;omega;rw[d0 K];rcases mt j l.length with I | I;rw[sX I,sX I];rw[sQ I,sQ I,P0 h,d0 AB]
theorem Lu{ws us:Lv_}(h:us.length=ws.length):JY ws 0 us=us:=by
 apply ud;intro j;rw[P0 AB];split;simp;rename_i hj;rw[tK AB,tK AB]
theorem H5{E H:LH}{S:List Seg}{bk:Nat}{ws:Lv_}{e:TypeId}{f:Nat×Nat}(j:Nat)(I:Aw E H S)(K:S[j]?=some [(bk,.cells (l++ws).toArray e f)]):∀q v,ws[q]?=some v->(Ao E H S).cell? (Addr.add ⟨bk,l.length,none⟩ q)=some v:=λq v O=>by
 rw[EO rfl]
 refine Cc I K ?_
 simp only[tq]
 rw[sQ AB]
 rw[show l.length+q - l.length=q by omega];exact O
theorem KS{E H:LH}{S:List Seg}{bk o:Nat}{ws:Lv_}{e:TypeId}{f:Nat×Nat}(j:Nat)(I:Aw E H S)(K:S[j]?=some [(bk,.cells (l++ws).toArray e f)])(O:ws[o]?=some w):(Ao E H S).cell? ⟨bk,l.length+o,none⟩=some w:=by
 have:=H5 j I K o w O
 rwa[EO rfl] at this
theorem Rh{pp:Rp α}{E:LH}{ws us:Lv_}{xs:List α}{m:Int}{x y:α}(U:(rA kk pp).r E ws xs)(hm:ix xs m=some x)(hu:pp.r E us y):(rA kk pp).r E (JY ws (m.toNat*pp.n) us) (xs.set m.toNat y)/\m.toNat*pp.n+us.length<=ws.length:=by
 have am:=C5 U;obtain⟨Y,wss,rfl,Z,ac⟩:=U;obtain⟨m,rfl,hm⟩:=Ge hm;have ap:m<xs.length:=(d7.1 hm).1;have ag:=pp.len hu;have aq:=JF (Z.trans Y.symm) ac;have ai:m*pp.n+us.length<=wss.flatten.length:=by
  rw[am,ag];have:(m+1)*pp.n<=kk*pp.n:=tJ _ AB;rw[tZ] at this;exact this
 simp only[tt];refine⟨⟨by simpa using Y,wss.set m us,?_,by simpa using Z,λi av aw I K=>?_⟩,ai⟩
 .apply ud;intro j;rw[P0 ai];have key:∀(wss:List (Lv_)) (m:Nat) (hm:m<wss.length),(∀ws∈wss,ws.length=pp.n)->∀j,(wss.set m us).flatten[j]?=if m*pp.n<=j/\j<m*pp.n+us.length then us[j - m*pp.n]? else wss.flatten[j]? :=by
   intro wss
   induction wss with
   | nil=>intro m hm;simp at hm
   | cons vs wss ay=>
    intro m hm aj j;have az:vs.length=pp.n:=aj vs AM;cases m with
    | zero=>
     simp only[uZ,tk,u0,tz,true_and,uo,uO];split;rename_i hj;rw[sX hj];rename_i hj;rw[sQ AB,sQ AB,ag,az]
    | succ m=>
     simp only[vQ,tk];have O:(m+1)*pp.n=m*pp.n+pp.n:=tZ _ _;rcases mt j vs.length with hj | hj;rw[sX hj,sX hj,d0 AB];rw[sQ hj,sQ hj,ay m (by simpa using hm) (λws a0=>aj ws (kW _ a0))];by_cases al:m*pp.n<=j - vs.length/\j - vs.length<m*pp.n+us.length;rw[d9 al,d9 AB];congr 1;omega;rw[d0 al,d0 AB]
  exact(key wss m AB aq j).symm
 .rw [tD] at I K;by_cases O:m=i;subst O;rw[d9 rfl,d9 ap] at I;rw[d9 rfl,d9 AB] at K;cases I;cases K;exact hu;rw[d0 O] at I K;exact ac i av aw I K
theorem H9{pp:Rp α}{E:LH}{x:α}(h:pp.r E [w] x):(rA kk pp).r E (List.replicate kk w) (List.replicate kk x):=by
 refine⟨AM,List.replicate kk [w],?_,AM,λi y us I hu=>?_⟩
 .induction kk with
  | zero=>rfl
  | succ k K=>rw[uU,uU,tk,← K];rfl
 .have O:=uP (sU I);have e2:=uP (sU hu);subst O e2;exact h
section
variable {b:Frame}{n:Nat}
variable {x:Operand}{i:Nat}
theorem KV{pp:Rp α}{ws:Lv_}{xs:List α}{xv:α}{m:Int}{bk o:Nat}(I:(rA kk pp).r E ws xs)(hm:ix xs m=some xv)(ht:P.underlying t=some (.array kk e))(K:BA P e=some pp.n)(O:ρ x=.pointer (some ⟨bk,o,none⟩))(U:ρ y=.int kd m):
  Yl P ⟨d,.indexAddr t x y,ty,p,af,g⟩ ρ s (.pointer (some ⟨bk,o+m.toNat*pp.n,none⟩)):=by
 let⟨us,ac,Y,Z,ag⟩:=IZ I hm;have:=V0 (P:=P) (s:=s) (d:=d) (ty:=ty) (p:=p) (af:=af) (g:=g) ht K O U ⟨Y,Z⟩;rw[EO rfl] at this;exact this
theorem IY{bk o:Nat}{ws us:Lv_}{v:Value}(j:Nat)(O:ops[i]?=some ⟨d,.store t x y,ty,p,af,g⟩)(hw:A9 L ops ⟨d,.store t x y,ty,p,af,g⟩=some true)(U:Cd b n ⟨d,.store t x y,ty,p,af,g⟩=true)(Y:Aw E H S)
  (Z:ev L x=some (.pointer (some ⟨bk,l.length+o,none⟩))) (ac:ev L y=some v) (I:v.cells.toList=us) (ag:BA P t=some us.length) (ai:∀u∈us,Dz u=true) (aj:S[j]?=some [(bk,.cells (l++ws).toArray e (0,0))]) (hle:o+us.length<=ws.length)
  (h:Aw E H (S.set j [(bk,.cells (l++JY ws o us).toArray e (0,0))])->JL J Q b n (AG L d undef) ds (Ah ops rest k) cs (Ao E H (S.set j [(bk,.cells (l++JY ws o us).toArray e (0,0))]))):
  JL J Q b n L ds (Ag ops i rest k) cs (Ao E H S):=by
 have al:v.cells.size=us.length:=by rw[← I];simp
 refine FI (v:=v) (off:=l.length+o) j O hw U Y Z ac (by rw[al];exact ag) (by rw[I];exact ai) aj AP λK=>?_;rw[I,aK hle] at K ⊢;exact h K
end
section
variable {x:Operand}{v:Value}
theorem YD{n:Nat}{kd:IntKind}{a b:Int}(ht:P.underlying t=some (.int kd)){Q:Bool->St->Prop}(k:Q (a==b) s):lp P (Op.equalIn (n+1) t (.int kd a) (.int kd b)) s Q X:=by
 unfold Op.equalIn;refine AH _ _ (C4 ht ?_);simp only[tS];exact k
end
theorem eh{E H:LH}{S:List Seg}{bk:Nat}{ws:Lv_}{e:TypeId}{f:Nat×Nat}(j:Nat)(I:Aw E H S)(K:S[j]?=some [(bk,.cells (l++ws).toArray e f)])(O:AO bks bk=true)(hs:∀x o,(BK (AO bks) (Ao E H S)).E x=some o->s'.E x=some o):∀q v,ws[q]?=some v->s'.cell? (Addr.add ⟨bk,l.length,none⟩ q)=some v:=λq v U=>by
 rw[EO rfl]
 refine ES j I K O hs ?_
 simp only[tq]
 rw[sQ AB]
 rw[show l.length+q - l.length=q by omega];exact U
variable {xt t1 t2:TypeId}{o:Option (Int×Option Int)}
section
variable {x:Operand}{v:Value}
end
def ZB{P:Program}(J:Judge P)(v:Value)(args:Av_)(s:St)(R:Value->St->Prop):Prop:=
 ∀(Q:Gs_) (c:Frame) (cs:Lf_),(∀w s',R w s'->J.ok Q (G (c.finish w) cs) s')->
  lp P (do let d ← Deferred.ofValue v args;invoke d.target d.args) s (λI s'=>match I with
   | .enter f a=>J.ok Q (G (Frame.enter P f a .normal) (c::cs)) s'
   | .round l f tm as K=>J.ok Q (G (Frame.round l f tm as K .normal) (c::cs)) s'
   | _=>False) (λ_ _=>False)
def Im{P:Program}(J:Judge P)(v:Value)(args:Lv_)(E:LH)(B:Seg)(R:Value->LH->Seg->Prop):Prop:=
 ∀H,Nd E H B->ZB J v args.toArray (mk E H B) (λv s'=>∃E' B',Le E E'/\R v E' B'/\Nd E' H B'/\s'=mk E' H B')
section
variable {b:Frame}{n i:Nat}
theorem Im.ofFn{f:FuncId}{caps vs:Lv_}{B:Seg}(hb:ET P f=true)(h:A2 J f (vs++caps) E B R):Im J (.func (.func f) #[] caps.toArray) vs E B R:=λH I Q c cs K=>by
 simp only[Deferred.ofValue,bind,Sem.bind,pure,invoke]
 have e: #[]++vs.toArray++caps.toArray=(vs++caps).toArray:=by simp
 rw[e];exact KP hb (h H I Q c cs K)
abbrev Hk:=@Im.ofFn
theorem cM{x:Operand}{K:Value}{s:St}{vs:Lv_}{R:Value->St->Prop}
  (U:ops[i]?=some ⟨d,.call ⟨.value x,args,ats⟩,ty,p,af,g⟩) (hw:A9 L ops ⟨d,.call ⟨.value x,args,ats⟩,ty,p,af,g⟩=some true) (O:((b.kind != .early)&&BC n d)=true)
  (Y:ev L x=some K) (Z:evs L args.toList=some vs) (ac:ZB J K vs.toArray s R) (ag:∀v s',R v s'->JL J Q b n (AG L d v) ds (Ah ops rest k) cs s'):
  JL J Q b n L ds (Ag ops i rest k) cs s:=λT I=>by
 simp only[f6] at O
 have ai:args.map (BZ T)=vs.toArray:=by
  rw[← HP I.Hu Z];apply ut;simp
 refine DI U (CI I hw) (by simpa using O.1) (.inr λc aj=>by cases aj) ?_;have hd:lp P (execOp (BZ T) ⟨d,.call ⟨.value x,args,ats⟩,ty,p,af,g⟩) s (upon J Q b T ds ops i rest k cs d) (NO J Q b T ds ops i rest k cs):=by
  have al:execOp (BZ T) ⟨d,.call ⟨.value x,args,ats⟩,ty,p,af,g⟩=(do let d ← Deferred.ofValue K vs.toArray;invoke d.target d.args):=by
   simp only[execOp,resolve,ai,I.Hu _ _ Y]
  rw[al];refine Fy _ (ac Q (fr b T ds (Ag ops i rest k)) cs λv s' am=>?_) (λap s' h=>?_) (λ_ _ h=>h.elim);rw[HQ (o:=⟨d,.call ⟨.value x,args,ats⟩,ty,p,af,g⟩) _ _ _ _ _ U];exact ag v s' am _ (I.put O.2 v);cases ap<;>first | exact h | exact h.elim
 exact hd
theorem Ni{x:Operand}{K:Value}{vs:Lv_}(j:Nat)
  (ai:Im J K vs E seg R) (aj:ops[i]?=some ⟨d,.call ⟨.value x,args,ats⟩,ty,p,af,g⟩) (hw:A9 L ops ⟨d,.call ⟨.value x,args,ats⟩,ty,p,af,g⟩=some true) (al:((b.kind != .early)&&BC n d)=true)
  (I:ev L x=some K) (am:evs L args.toList=some vs) (O:Aw E H S) (U:S[j]?=some seg) (ap:∀v E' seg',Le E E'->R v E' seg'->Aw E' H (S.set j seg')->JL J Q b n (AG L d v) ds (Ah ops rest k) cs (Ao E' H (S.set j seg'))):
  JL J Q b n L ds (Ag ops i rest k) cs (Ao E H S):=by
 have Y:S.flatten.Perm (seg++(S.set j []).flatten):=(CB (seg':=seg) U).1.trans lF;have Z:Nd E H (seg++(S.set j []).flatten):=Cj O Y;have aq:Ao E H S=mk E (Bu (S.set j []).flatten H) seg:=by
  rw[show Ao E H S=mk E H S.flatten from rfl,Gk O Y];unfold mk;rw[G8]
 rw[aq];refine cM aj hw al I am (ai _ (Ef Z)) ?_;rintro v s' ⟨E',B',hle,av,aw,rfl⟩;have e2:mk E' (Bu (S.set j []).flatten H) B'=mk E' H (B'++(S.set j []).flatten):=by unfold mk;rw[G8]
 have ay:Nd E H (S.set j []).flatten:=by
  have:=Z;rw[Ea] at this ⊢;rw[tE,tU] at this;exact⟨this.1.2.1,λq az=>this.2 q (tG _ az)⟩
 refine XS V λ⟨w,a0⟩=>?_;have a1:Nd E' H (S.set j []).flatten:=ay.grow λx I=>by
  have a2:=a0.d x I;have a3:Bu B' (Bu (S.set j []).flatten H) x=none:=a2;exact(IW a3).1
 have ac:Nd E' H (B'++(S.set j []).flatten):=EQ aw a1;rw[e2];have ag:(B'++(S.set j []).flatten).Perm (S.set j B').flatten:=lF.trans (CB U).2.symm;rw[Gk ac ag];exact ap v E' B' hle av (Cj ac ag)
theorem Take.mo{m:Nat}{listed:Array Bool}{f:FuncId}{vs:Lv_}(ai:IA S bks)(U:Aw E H S)(aj:A2 J f vs E [] R)
  (al:ops[i]?=some ⟨d,.call ⟨.value (.func f),args,ats⟩,ty,p,af,g⟩) (hw:A9 L ops ⟨d,.call ⟨.value (.func f),args,ats⟩,ty,p,af,g⟩=some true) (am:BC n d=true) (hb:ET P f=true) (ap:evs L args.toList=some vs)
  (aq:∀v E' seg',Le E E'->R v E' seg'->Aw E' H (S++ [seg'])->AU J Q b n ds ops k cs m (AO bks) sz (Bp listed i) (AG L d v) (Ao E' H (S++ [seg']))):
  Take J Q b n ds ops k cs m (AO bks) sz listed L (Ao E H S) i:=by
 refine have av:=Id (aj (Bu S.flatten H) trivial) (by rintro v s' ⟨E',B',_,_,_,rfl⟩;rfl);⟨_,al,by simp[EP],am,hw,λρ Y=>?_⟩;have aw:args.map ρ=vs.toArray:=by
  rw[← HP Y ap];apply ut;simp
 have ay:ρ (.func f)=.func (.func f) #[] #[]:=Y _ _ V;simp only[execOp,resolve,bind,Sem.bind,Deferred.ofValue,ay,pure,invoke];have e: #[]++args.map ρ++ #[]=vs.toArray:=by rw[aw];simp
 rw[e];refine KP hb ?_;rw[Nc];refine⟨_,av,?_⟩;rintro v a6 ⟨⟨E',B',hle,az,a0,rfl⟩,w,a1⟩;have e2:mk E' (Bu S.flatten H) B'=mk E' H (B'++S.flatten):=by unfold mk;rw[G8]
 have a2:Nd E' H S.flatten:=Nd.grow U λx K=>by
  have a3:=a1.d x K;have O:Bu B' (Bu S.flatten H) x=none:=a3;exact(IW O).1
 have Z:Nd E' H (B'++S.flatten):=EQ a0 a2;have ac:(B'++S.flatten).Perm (S++ [B']).flatten:=by rw[Gx];exact lF
 have ag:Aw E' H (S++ [B']):=Cj Z ac;rw[e2,Gk Z ac];refine⟨V,λx o K=>?_,aq v E' B' hle az ag⟩;by_cases hd:AO bks x=true
 .obtain⟨j,o',hj⟩:=ai.mem x (by simpa [AO] using hd);have O:(Ao E H S).get x=some o':=Ew (i:=0) U hj V;have a4:j<S.length:=(d7.1 hj).1;have a5:(Ao E' H (S++ [B'])).get x=some o':=Ew (i:=0) ag (by rw[sX a4];exact hj) rfl;have I:(if AO bks x then(Ao E H S).get x else E x)=some o:=K
  show(if AO bks x then(Ao E' H (S++ [B'])).get x else E' x)=some o
  rw[d9 hd] at I ⊢;rw[a5,← O];exact I
 .have I:(if AO bks x then(Ao E H S).get x else E x)=some o:=K
  show(if AO bks x then(Ao E' H (S++ [B'])).get x else E' x)=some o
  rw[d0 hd] at I ⊢;exact hle _ _ I
theorem Take.Em{m:Nat}{listed:Array Bool}{f:FuncId}{vs:Lv_}(K:Aw E H S)(O:A2 J f vs E [] R)
  (U:ops[i]?=some ⟨d,.call ⟨.value (.func f),args,ats⟩,ty,p,af,g⟩) (hw:A9 L ops ⟨d,.call ⟨.value (.func f),args,ats⟩,ty,p,af,g⟩=some true) (Y:BC n d=true) (hb:ET P f=true) (Z:evs L args.toList=some vs)
  (I:∀v E' seg',Le E E'->R v E' seg'->Aw E' H (S++ [seg'])->AU J Q b n ds ops k cs m En sz (Bp listed i) (AG L d v) (Ao E' H (S++ [seg']))):
  Take J Q b n ds ops k cs m En sz listed L (Ao E H S) i:=by
 have e:AO []=En:=by funext x;rfl
 rw[← e] at I ⊢;exact Take.mo (bks:=[]) trivial K O U hw Y hb Z I
abbrev Bt:=@Take.Em
end
open Go.ConcN (upd upd_ne upd_same)
def DY:Loc->Option Nat | .cell a=>some a.block | .obj r=>some r | _=>none
structure Cu (t:Trace) (w:World) (N:Nat) (S:Nat->St) (Sh:Nat->Prop):Prop where
 fits:∀i,i<N->Fits (S i) w
 hh:∀i j,i<N->j<N->i≠j->∀b,(S i).H b≠none->(S j).H b=none/\(S j).E b=none
 sh:∀i,i<N->∀b,Sh b->(S i).H b=none/\(S i).E b=none
 HF:∀b,Sh b->b<w.heap.size
 clean:∀said,¬Race said t
 low:∀op∈t,op.act.low w.heap.size
 kH:∀i,i<N->∀b,(S i).H b≠none->∀x a,touchAt t x=some a->DY a.loc=some b->Knows t i x
 kE:∀i,i<N->∀b,(S i).E b≠none->∀x a,touchAt t x=some a->DY a.loc=some b->a.write=true->Knows t i x
theorem Tm{t:Trace}{x:Nat}{a:Touch}{b n:Nat}(Y:∀op∈t,op.act.low n)(h:touchAt t x=some a)(hb:DY a.loc=some b):b<n:=by
 let⟨op,Z,I⟩:=touch_of h;have K:=Y op (mem_of_getElem? Z);cases O:op.act with
 | access e=>
  rw[O] at I K;simp only[MemAct.touch?,tT] at I;subst I;simp only[MemAct.low] at K;cases U:e.loc with
  | cell ad=>rw[U] at K hb;simp only[DY,tT] at hb;subst hb;exact K
  | obj r=>rw[U] at K hb;simp only[DY,tT] at hb;subst hb;exact K
  | _=>rw[U] at hb;simp[DY] at hb
 | mark m=>
  rw[O] at I K;cases m<;>simp only[MemAct.touch?] at I<;>first
   | (simp at I;done)
   | (simp only[tT] at I;subst I;simp only[DY,tT] at hb;subst hb;exact K)
 | _=>rw[O] at I;simp[MemAct.touch?] at I
variable{w':World}
theorem Nn{s:St}{w:World}{e:Event}{a:Touch}{b:Nat}(h:Ev s w w' e)(I:(MemAct.ofEvent e).touch?=some a)(hb:DY a.loc=some b):
  H6 s w w' b a.write:=by
 obtain⟨loc,wr,U⟩:=e;cases loc with
 | cell ad=>
  obtain⟨K,O⟩:=h;simp only at K;subst K;simp only[MemAct.ofEvent,MemAct.touch?,tT] at I;subst I;simp only[DY,tT] at hb;subst hb;exact O
 | obj r=>
  obtain⟨K,O⟩:=h;simp only at K;subst K;simp only[MemAct.ofEvent,MemAct.touch?,tT] at I;subst I;simp only[DY,tT] at hb;subst hb;exact O
 | mark m=>
  cases m<;>simp only[Ev] at h<;>first | exact h.elim | simp[MemAct.ofEvent,MemAct.touch?] at I
 | _=>exact h.elim
theorem kO{s:St}{w:World}{e:Event}(h:Ev s w w' e):(MemAct.ofEvent e).low w'.heap.size:=by
 obtain⟨loc,wr,O⟩:=e;cases loc with
 | cell ad=>obtain⟨I,K⟩:=h;simp only at I;subst I;exact K.1
 | obj r=>obtain⟨I,K⟩:=h;simp only at I;subst I;cases wr<;>exact K.1
 | mark m=>cases m<;>simp only[Ev] at h<;>first | exact h.elim | exact trivial
 | _=>exact h.elim
theorem Z2{l:Loc}(h:l.isMemory=true):∃b,DY l=some b:=by
 cases l<;>simp[Loc.isMemory] at h<;>exact⟨_,rfl⟩
variable{N:Nat}{Sh:Nat->Prop}
theorem Cu.own{t:Trace}{w:World}{S:Nat->St}(h:Cu t w N S Sh){i:Nat}(hi:i<N){fn:FuncId}{pos:String}{es:Array Event}
  (a6:Fits s' w') (O:Fr (S i) w s' w') (ap:∀e∈es,Ev (S i) w w' e):Cu (t++MemOp.ofEvents i fn pos es) w' N (upd S i s') Sh:=by
 have a1:∀j,j<N->j≠i->∀b o,((S j).H b=some o∨(S j).E b=some o)->w'.heap[b]?=some o/\(S i).H b=none:=by
  intro j hj U b o I;have hw:w.heap[b]?=some o:=I.elim ((h.fits j hj).h b o) ((h.fits j hj).e b o);have ac:b<w.heap.size:=by
   rcases mt b w.heap.size with aw | aw;exact aw;simp[ta aw] at hw
  have a2:(S i).H b=none:=by
   cases a7:(S i).H b with
   | none=>rfl
   | some u=>
    have:=h.hh i j hi hj (ti U) b (by rw[a7];simp);rcases I with I | I;rw[this.1] at I;cases I;rw[this.2] at I;cases I
  exact⟨by rw[O.keep b ac a2,hw],a2⟩
 have aq:∀j,j<N->∀b,w.heap.size<=b->(S j).H b=none/\(S j).E b=none:=by
  intro j hj b hb;constructor
  .cases K:(S j).H b with
   | none=>rfl
   | some o=>have:=(h.fits j hj).h b o K;simp[ta hb] at this
  .cases K:(S j).E b with
   | none=>rfl
   | some o=>have:=(h.fits j hj).e b o K;simp[ta hb] at this
 have ag:∀op∈MemOp.ofEvents i fn pos es,op.g=i/\∃e∈es,op.act=MemAct.ofEvent e:=by
  intro op ag;obtain⟨e,he,rfl⟩:=mem_ofEvents ag;exact⟨V,e,he,V⟩
 have hold:∀x a,touchAt t x=some a->touchAt (t++MemOp.ofEvents i fn pos es) x=some a:=by
  intro x a K;let⟨op,I,_⟩:=touch_of K;rw[touchAt_old (lt_size_of_getElem? I)];exact K
 have av:∀x a,touchAt (t++MemOp.ofEvents i fn pos es) x=some a->touchAt t x=some a∨(Knows (t++MemOp.ofEvents i fn pos es) i x/\∃e∈es,(MemAct.ofEvent e).touch?=some a):=by
  intro x a K;let⟨op,I,a3⟩:=touch_of K;rcases getElem?_append_cases I with⟨ac,a8⟩ | ⟨_,a9⟩;left;rw[touchAt_of a8];exact a3;right;let⟨hg,e,he,aj⟩:=ag op a9;exact⟨by have:=knows_own I;rwa[hg] at this,e,he,by rw[← aj];exact a3⟩
 have bb:∀j,j<N->j≠i->∀b,s'.H b≠none->(S j).H b=none/\(S j).E b=none:=by
  intro j hj U b hb;rcases O.own b hb with K | K;exact h.hh i j hi hj (ti U) b K;exact aq j hj b K
 have be:∀j,j<N->j≠i->∀b,(S j).H b≠none->s'.H b=none/\s'.E b=none:=by
  intro j hj U b hb;have Y:=h.hh j i hj hi U b hb;have ac:¬w.heap.size<=b:=λK=>hb (aq j hj b K).1;constructor
  .cases K:s'.H b with
   | none=>rfl
   | some o=>
    rcases O.own b (by rw[K];simp) with y | y;exact absurd Y.1 y;exact absurd y ac
  .cases K:s'.E b with
   | none=>rfl
   | some o=>
    rcases O.F8 b (by rw[K];simp) with y | y | y;exact absurd Y.2 y;exact absurd Y.1 y;exact absurd y ac
 constructor;intro j hj;by_cases e:j=i;subst e;rw[upd_same];exact a6;rw[upd_ne _ _ e];exact⟨λb o I=>(a1 j hj e b o (.inr I)).1,λb o I=>(a1 j hj e b o (.inl I)).1,(h.fits j hj).d⟩;intro a c a4 al U b hb;by_cases e:a=i;subst e;rw[upd_same] at hb;rw[upd_ne _ _ (ti U)];exact bb c al (ti U) b hb;rw[upd_ne _ _ e] at hb;by_cases a5:c=i;subst a5;rw[upd_same];exact be a a4 U b hb;rw[upd_ne _ _ a5];exact h.hh a c a4 al U b hb
 .intro j hj b hb;by_cases e:j=i
  .subst e;rw[upd_same];have Y:=h.sh j hj b hb;have ac:=h.HF b hb;constructor
   .cases K:s'.H b with
    | none=>rfl
    | some o=>
     rcases O.own b (by rw[K];simp) with y | y;exact absurd Y.1 y;omega
   .cases K:s'.E b with
    | none=>rfl
    | some o=>
     rcases O.F8 b (by rw[K];simp) with y | y | y;exact absurd Y.2 y;exact absurd Y.1 y;omega
  .rw [upd_ne _ _ e];exact h.sh j hj b hb
 .exact λb hb=>tW (h.HF b hb) O.size
 .intro said;refine noRace_append (g:=i) (h.clean said) (λop I=>(ag op I).1) λx a K op I c al bg=>?_;let⟨_,e,he,aj⟩:=ag op I;rw[aj] at al;obtain⟨bi,hm,ai,_⟩:=bg;let⟨b,hb⟩:=Z2 hm;have bn:DY c.loc=some b:=by rw[← bi];exact hb
  have am:=Nn (ap e he) al bn;rcases am.2 with y | y | ⟨y,ay⟩;exact h.kH i hi b y x a K hb;have:=Tm h.low K hb;omega;rcases ai with z | z;exact h.kE i hi b y x a K hb z;rw[ay] at z;cases z
 intro op I;rcases ux.1 I with I | I;exact MemAct.low_mono O.size (h.low op I);let⟨_,e,he,aj⟩:=ag op I;rw[aj];exact kO (ap e he);intro j hj b hb x a K Z;by_cases e:j=i;subst e;rw[upd_same] at hb;rcases av x a K with I | ⟨az,_⟩;rcases O.own b hb with y | y;exact(h.kH j hj b y x a I Z).app _;have:=Tm h.low I Z;omega;exact az;rw[upd_ne _ _ e] at hb;rcases av x a K with I | ⟨_,ev,he,a0⟩;exact(h.kH j hj b hb x a I Z).app _;have am:=Nn (ap ev he) a0 Z;have Y:=h.hh j i hj hi e b hb;rcases am.2 with y | y | ⟨y,_⟩;exact absurd Y.1 y;exact absurd (aq j hj b y).1 hb;exact absurd Y.2 y;intro j hj b hb x a K Z ai;by_cases e:j=i;subst e;rw[upd_same] at hb;rcases av x a K with I | ⟨az,_⟩;rcases O.F8 b hb with y | y | y;exact(h.kE j hj b y x a I Z ai).app _;exact(h.kH j hj b y x a I Z).app _;have:=Tm h.low I Z;omega;exact az;rw[upd_ne _ _ e] at hb;rcases av x a K with I | ⟨_,ev,he,a0⟩;exact(h.kE j hj b hb x a I Z ai).app _;have am:=Nn (ap ev he) a0 Z;rcases am.2 with y | y | ⟨_,ay⟩;exact absurd ((h.hh i j hi hj (ti e) b y).2) hb;exact absurd (aq j hj b y).2 hb;rw[ay] at ai;cases ai
theorem Cu.mute{t u:Trace}{w:World}{S:Nat->St}(h:Cu t w N S Sh){g:Nat}(hu:∀op∈u,op.g=g)(Y:∀op∈u,op.act.touch?=none)(ag:∀op∈u,op.act.low w'.heap.size)(hw:w'.heap=w.heap):Cu (t++u) w' N S Sh:=by
 have Z:∀x a,touchAt (t++u) x=some a->touchAt t x=some a:=by
  intro x a K;let⟨op,I,O⟩:=touch_of K;rcases getElem?_append_cases I with⟨am,ai⟩ | ⟨_,aj⟩;rw[touchAt_of ai];exact O;rw[Y op aj] at O;cases O
 exact⟨λi hi=>⟨λb o I=>by rw[hw];exact(h.fits i hi).e b o I,λb o I=>by rw[hw];exact(h.fits i hi).h b o I,(h.fits i hi).d⟩,h.hh,h.sh,λb hb=>by rw[hw];exact h.HF b hb,
  λsaid=>noRace_append (g:=g) (h.clean said) hu (λx a _ op I c ac _=>by rw[Y op I] at ac;cases ac),
  λop I=>(ux.1 I).elim (λI=>by rw[hw];exact h.low op I) (ag op),
  λi hi b hb x a K U=>(h.kH i hi b hb x a (Z x a K) U).app _,λi hi b hb x a K U al=>(h.kE i hi b hb x a (Z x a K) U al).app _⟩
theorem Cu.ghost{t:Trace}{w:World}{S:Nat->St}(h:Cu t w N S Sh){i:Nat}(hi:i<N){s₀:St}(hg:C7 (S i) s₀):Cu t w N (upd S i s₀) Sh:=by
 have ac:∀b,s₀.H b≠none->(S i).H b≠none:=λb hb=>by let⟨o,U⟩:=Jx hb;rw[hg.own b o U];simp
 have aj:∀b,s₀.E b≠none->(S i).E b≠none∨(S i).H b≠none:=λb hb=>by
  let⟨o,U⟩:=Jx hb;rcases hg.F8 b o U with x | x;exact .inl (by rw[x];simp);exact .inr (by rw[x.1];simp)
 have am:∀{x:Option Obj},¬x≠none->x=none:=λh=>wK.1 h;constructor;intro j hj;by_cases e:j=i;subst e;rw[upd_same];exact hg.fits (h.fits j hj);rw[upd_ne _ _ e];exact h.fits j hj
 .intro a c Y Z O b hb;by_cases e:a=i;subst e;rw[upd_same] at hb;rw[upd_ne _ _ (ti O)];exact h.hh a c Y Z O b (ac b hb)
  .rw [upd_ne _ _ e] at hb;by_cases ag:c=i
   .subst ag;rw[upd_same];have al:=h.hh a c Y Z O b hb
    grind
   .rw [upd_ne _ _ ag];exact h.hh a c Y Z O b hb
 .intro j hj b hb;by_cases e:j=i
  .subst e;rw[upd_same];have al:=h.sh j hj b hb
   grind
  .rw [upd_ne _ _ e];exact h.sh j hj b hb
 exact h.HF;exact h.clean;exact h.low;intro j hj b hb x a I K;by_cases e:j=i;subst e;rw[upd_same] at hb;exact h.kH j hj b (ac b hb) x a I K;rw[upd_ne _ _ e] at hb;exact h.kH j hj b hb x a I K;intro j hj b hb x a I K ai;by_cases e:j=i;subst e;rw[upd_same] at hb;rcases aj b hb with y | y;exact h.kE j hj b y x a I K ai;exact h.kH j hj b y x a I K;rw[upd_ne _ _ e] at hb;exact h.kE j hj b hb x a I K ai
open Go.ConcN (sumTo sumTo_upd)
abbrev St.none:St:=St.quiet
def HI(o o':Os):Prop:=∃d:Nat,o'={o with wall:=o.wall+d,mono:=o.mono+d}
theorem HI.refl(o:Os):HI o o:=⟨0,V⟩
theorem HI.of{o o':Os}(h:o'=o):HI o o':=h▸ .refl o
theorem HI.trans{a b c:Os}(h:HI a b)(k:HI b c):HI a c:=by
 obtain⟨d,rfl⟩:=h;obtain⟨e,rfl⟩:=k;exact⟨d+e,by simp[uS]⟩
def lone(s:St):Nat->St:=λi=>if i=0 then s else St.none
structure IK (P:Program) (gs:Array Goroutine) (w:World) (t:Trace) (q:Nat->Nat) (Sh:Nat->Prop) (g:Goroutine) (s:St):Prop where
 main:gs[0]?=some g
 lv:Leavers P t gs q
 CP:Cu t w gs.size (lone s) Sh
 over:t.HandedOver
 hears:Deaf t 0=0
def Reaches(P:Program)(gs:Array Goroutine)(w:World)(sl:Option (Nat×Nat))(t:Trace)(s:St)(K:Gs_):Prop:=
 ∃(n:Nat) (gs':Array Goroutine) (w':World) (O:Option (Nat×Nat)) (I:Trace) (q':Nat->Nat) (U:Nat->Prop) (g':Goroutine) (s':St),
  runNT P n (crowd gs w sl) t=(.next (crowd gs' w' O),I)/\IK P gs' w' I q' U g' s'/\K g' s'/\Le' s s'/\w'.tape=w.tape/\HI w.os w'.os/\w'.output=w.output
 where
  Le' (s s' : St) : Prop :=∀ b o, s.E b = some o -> s'.E b = some o
theorem Xh{s:St}:upd (lone s) 0 s'=lone s':=by
 funext i;unfold upd lone;split<;>rfl
theorem PM{P:Program}{m m':Machine}{t ops:Trace}{k:Nat}{r:Stepped×Trace}(h:stepT P m=(.next m',ops))(I:runNT P k m' (t++ops)=r):runNT P (k+1) m t=r:=by
 simp only[runNT,h];exact I
theorem IK.at_{P:Program}{gs:Array Goroutine}{w:World}{t:Trace}{q:Nat->Nat}{g:Goroutine}{s:St}(h:IK P gs w t q Sh g s)(d:Nat):IK P gs (w.at d) t q Sh g s:=
 ⟨h.main,h.lv,by
  have:=h.CP.mute (u:=#[]) (w':=w.at d) (g:=0) AM AM AM rfl
  simpa using this,h.over,h.hears⟩
theorem cz{P:Program}{g:Goroutine}{s:St}{K:Gs_}(a4:YJ P true g s K):
  ∀(M:Nat) (gs:Array Goroutine) (w:World) (sl:Option (Nat×Nat)) (t:Trace) (q:Nat->Nat) (Sh:Nat->Prop),sumTo gs.size q<=M->IK P gs w t q Sh g s->Reaches P gs w sl t s K:=by
 intro M
 induction M with
 | zero=>?_
 | succ M a9=>?_
 all_goals
  intro gs w sl t q Sh b4 hC;have am:=a4.1;have bb:∀x∈gs,awake x:=by
   intro x ac;obtain⟨i,hi,rfl⟩:=wk.1 ac;rcases tO i with rfl | ap
   .have:gs[0]=g:=by simpa [tl hi] using hC.main
    rw[this];exact awake_of (.inl am)
   .exact awake_of ((hC.lv.old i _ ap (tl hi)).status.elim .inl λx=>.inr (.inr x))
  let⟨i,x,d,ag,hi,ac,a5⟩:=crowd_pick (P:=P) (w:=w) (sl:=sl) bb ⟨0,g,hC.main,am⟩;have aq:=hC.at_ d;have av:0<gs.size:=(f7.1 hC.main).1;rcases tO i with rfl | ap
  .obtain rfl:x=g:=by rw[hC.main] at hi;exact(f8 hi).symm
   have be:Fits s (w.at d):=aq.CP.fits 0 av;let⟨g',s',w',es,aw,ay,az,U,ai⟩:=a4.2.1 (w.at d) be;have a0:=runT_crowd_go (P:=P) (sl:=ag) (i:=0) hi (show stepG P (0==0) x (w.at d)=_ from aw);have aj:((gs.map (woken P x g' w')).setIfInBounds 0 g').size=gs.size:=by simp
   have O:∀op∈MemOp.ofEvents 0 x.frame.fn x.frame.place es,op.g=0:=λop I=>by obtain⟨e,_,rfl⟩:=mem_ofEvents I;rfl
   have bg:deafBehind (Deaf t 0) es=Deaf t 0:=deafBehind_still (λe he=>by
    have:=ai e he
    unfold Ev at this
    constructor<;>intro bi<;>rw[bi] at this<;>exact this) _
   refine⟨1,_,w',ag,t++MemOp.ofEvents 0 x.frame.fn x.frame.place es,q,Sh,g',s',PM (a5.trans a0) V,⟨by simp[av],⟨λj y hj Y=>?_,λj hj=>?_⟩,?_,?_,?_⟩,ay,U.ext,U.tape,.of U.os,U.output⟩
   .have a1:0≠j:=by omega
    rw[sN a1,uK] at Y;obtain⟨z,a2,rfl⟩:=tr.1 Y;have Z:=hC.lv.old j z hj a2;rw[woken_quitsD Z,Deaf_other t AB _ O];exact Z
   rw[Deaf_other t (g':=0) (by simp at hj;omega) _ O];exact hC.lv.above j (by simpa using hj);rw[aj,← Xh (s:=s)];exact aq.CP.own av az (by simpa [lone] using U) (by simpa [lone] using ai);exact handedOver_app hC.over λop I=>.inl (O op I);rw[Deaf_own,bg];exact hC.hears
  ·
   have Z:=hC.lv.old i x ap hi;have bn:(i==0)=false:=by simp;omega
   have a6:i<gs.size:=(f7.1 hi).1;cases a3:q i with
   | zero=>rw[a3] at Z;rw[Z.1] at ac;cases ac
   | succ k=>
    rw[a3] at Z;rcases Z with⟨bo,_⟩ | ⟨_,x',es,hm,bv,bw⟩;rw[bo] at ac;cases ac
    have b5:sumTo gs.size (upd q i k)+(k+1)=sumTo gs.size q+k:=by
     have:=sumTo_upd q k id a6;simpa [a3] using this
    first
     | (exfalso;omega)
     | (
      have a0:=runT_crowd_go (P:=P) (sl:=ag) (i:=i) hi (by rw[bn];exact bv (w.at d))
      have aj:((gs.map (woken P x x' (w.at d))).setIfInBounds i x').size=gs.size:=by simp
      have O:∀op∈MemOp.ofEvents i x.frame.fn x.frame.place es,op.g=i:=λop I=>by obtain⟨e,_,rfl⟩:=mem_ofEvents I;rfl
      have a7:∀op∈MemOp.ofEvents i x.frame.fn x.frame.place es,op.act.touch?=none:=λop I=>by obtain⟨e,he,rfl⟩:=mem_ofEvents I;exact touch_mute (hm e he)
      have bx:IK P ((gs.map (woken P x x' (w.at d))).setIfInBounds i x') (w.at d) (t++MemOp.ofEvents i x.frame.fn x.frame.place es) (upd q i k) Sh g s:=by
       refine⟨?_,⟨λj y hj Y=>?_,λj hj=>?_⟩,?_,?_,?_⟩
       .have a1:i≠0:=by omega
        rw[sN a1,uK,hC.main]
        simp[woken_run am]
       .by_cases al:i=j
        .subst al
         rw[sT (by simpa using a6)] at Y
         obtain rfl:=f8 Y
         rw[upd_same,Deaf_own]
         exact bw
        .rw [sN al,uK] at Y
         obtain⟨z,a2,rfl⟩:=tr.1 Y
         have a8:=hC.lv.old j z hj a2
         rw[woken_quitsD a8,upd_ne q k (ti al),Deaf_other t al _ O]
         exact a8
       .rw [Deaf_other t (g':=i) (by simp at hj;omega) _ O]
        exact hC.lv.above j (by simpa using hj)
       .rw [aj]
        exact aq.CP.mute O a7 (λop I=>by obtain⟨e,he,rfl⟩:=mem_ofEvents I;exact low_mute (hm e he) _) V
       exact handedOver_app hC.over λop I=>.inr (a7 op I);rw[Deaf_other t AB _ O];exact hC.hears
      obtain⟨n,gs',w',bz,b0,q',b1,g',s',aw,ay,az,U,ai,b2,b3⟩:=a9 _ (w.at d) ag _ _ Sh (by rw[aj];omega) bx
      exact⟨n+1,gs',w',bz,b0,q',b1,g',s',PM (a5.trans a0) aw,ay,az,U,ai,b2,b3⟩)
def H7(P:Program):Judge P where
 main:=true
 ok Q g s:=∀gs w sl t q Sh,IK P gs w t q Sh g s->Reaches P gs w sl t s Q
 stop {Q g s} h:=λgs w sl t q Sh hC=>⟨0,gs,w,sl,t,q,Sh,g,s,rfl,hC,h,λ_ _ h=>h,rfl,.refl _,rfl⟩
 step {Q g s} h:=λgs w sl t q Sh hC=>by
  let⟨n,gs',w',I,K,q',O,g',s',U,Y,Z,ac,ag,ai,aj⟩:=cz h _ gs w sl t q Sh (jK _) hC
  let⟨n',al,am,ap,aq,av,aw,ay,az,k1,a0,a1,a2,a3,a4,a5⟩:=Z gs' w' I K q' O Y
  refine⟨n+n',al,am,ap,aq,av,aw,ay,az,?_,a0,a1,λb o h=>a2 b o (ac b o h),a3.trans ag,ai.trans a4,a5.trans aj⟩
  rw[runNT_add,U];exact k1
 trans {Q R g s} h k:=λgs w sl t q Sh hC=>by
  let⟨n,gs',w',I,K,q',O,g',s',U,Y,Z,ac,ag,ai,aj⟩:=h gs w sl t q Sh hC
  let⟨n',al,am,ap,aq,av,aw,ay,az,k1,a0,a1,a2,a3,a4,a5⟩:=k g' s' Z gs' w' I K q' O Y
  refine⟨n+n',al,am,ap,aq,av,aw,ay,az,?_,a0,a1,λb o h=>a2 b o (ac b o h),a3.trans ag,ai.trans a4,a5.trans aj⟩
  rw[runNT_add,U];exact k1
 ghost {Q g s s₀} hg h:=λgs w sl t q Sh hC=>by
  have a6:0<gs.size:=(f7.1 hC.main).1
  have a7:IK P gs w t q Sh g s₀:=⟨hC.main,hC.lv,by
   rw[← Xh (s:=s)];exact hC.CP.ghost a6 (by simpa [lone] using hg),hC.over,hC.hears⟩
  let⟨n,gs',w',I,K,q',O,g',s',U,Y,Z,ac,ag,ai,aj⟩:=h gs w sl t q Sh a7
  exact⟨n,gs',w',I,K,q',O,g',s',U,Y,Z,λb o h=>ac b o (hg.ext b o h),ag,ai,aj⟩
end Pal
