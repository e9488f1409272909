/- DebtCoins: a part (1 of 9) of the proof of its row. -/
import Derived.Conc.Own5
import Derived.Conc.Listed
import Derived.Conc.DeferLaws
import Derived.Orders
import Derived.Conc.Beside
set_option linter.all false
set_option maxRecDepth 100000
namespace Pal
open Go Go.Conc
theorem V{α:Sort _}{a:α}:a=a:=rfl
abbrev aj:=@List.mem_singleton
abbrev d0:=@List.getElem?_eq_some_iff
abbrev d6:=@List.getElem?_eq_getElem
abbrev d7:=@if_pos
abbrev d9:=@if_neg
abbrev fZ:=@Prod.mk.injEq
abbrev f4:=@Array.getElem?_eq_some_iff
abbrev f5:=@Bool.and_eq_true
abbrev f6:=@Option.some.inj
abbrev f7:=@List.getD_eq_getElem?_getD
abbrev f8:=@List.mem_cons_of_mem
abbrev gv:=@List.mem_cons
abbrev gD:=@Nat.lt_or_ge
abbrev gM:=@List.mem_append
abbrev gR:=@Array.getD_eq_getD_getElem?
abbrev j9:=@List.getElem_mem
abbrev mt:=@Array.getElem?_setIfInBounds_ne
abbrev no:=@List.perm_append_comm
abbrev nL:=@List.getElem?_append_right
abbrev oU:=@Nat.le_refl
abbrev pe:=@List.not_mem_nil
abbrev pn:=@Array.getElem?_setIfInBounds_self_of_lt
abbrev pB:=@Bool.toNat_false
abbrev pE:=@List.append_assoc
abbrev pJ:=@List.length_append
abbrev pY:=@Nat.le_of_ble_eq_true
abbrev p8:=@List.getElem?_append_left
abbrev qa:=@List.length_set
abbrev qc:=@List.mem_range
abbrev qe:=@Bool.false_eq_true
abbrev qg:=@Array.getElem?_eq_none
abbrev qi:=@List.mem_of_getElem?
abbrev qk:=@List.append_nil
abbrev qm:=@congrArg
abbrev qs:=@List.all_eq_true
abbrev qt:=@List.perm_middle
abbrev qv:=@Bool.toNat_true
abbrev qw:=@List.mem_cons_self
abbrev qx:=@List.eq_nil_of_length_eq_zero
abbrev qy:=@List.getElem?_eq_none
abbrev qz:=@List.length_cons
abbrev qB:=@Array.getElem?_eq_getElem
abbrev qC:=@List.flatten_cons
abbrev qD:=@List.getElem?_set_ne
abbrev qE:=@List.getElem?_toArray
abbrev qF:=@List.mem_iff_getElem?
abbrev qG:=@List.mem_append_right
abbrev qH:=@Ne.symm
abbrev qI:=@List.getElem?_map
abbrev qJ:=@List.Perm.refl
abbrev qK:=@List.mem_map
abbrev qL:=@Option.map_eq_some_iff
abbrev qM:=@List.getElem?_set_self
abbrev qN:=@List.map_append
abbrev qO:=@List.nodup_append
abbrev qP:=@List.take_length
abbrev qQ:=@decide_eq_false
abbrev qR:=@Nat.mul_le_mul_right
abbrev qS:=@List.nil_append
abbrev qT:=@List.getElem?_set
abbrev qU:=@Array.getElem?_toList
abbrev qV:=@Nat.zero_le
abbrev qW:=@Nat.le_trans
abbrev qX:=@List.cons_append
abbrev qY:=@if_false
abbrev qZ:=@List.mem_append_left
abbrev q0:=@Nat.pow_le_pow_right
abbrev q1:=@if_true
abbrev q2:=@Option.some.injEq
abbrev q3:=@List.ext_getElem?
abbrev q4:=@List.take_add_one
abbrev q5:=@Int.toNat_natCast
abbrev q6:=@Nat.lt_of_lt_of_le
abbrev q7:=@List.map_cons
abbrev q8:=@Array.ext_getElem?
abbrev q9:=@Nat.eq_zero_or_pos
abbrev ra:=@Option.map_some
abbrev rb:=@Bool.or_eq_true
abbrev rc:=@or_false
abbrev re:=@Nat.add_zero
abbrev rf:=@Nat.succ_mul
abbrev rg:=@decide_eq_true
abbrev rh:=@Array.getElem?_append_left
abbrev ri:=@List.getElem?_cons_zero
abbrev rj:=@List.take_of_length_le
abbrev rk:=@List.find?_range_eq_some
abbrev rl:=@Array.ext'
abbrev rm:=@Classical.choose_spec
abbrev ro:=@List.length_singleton
abbrev rp:=@List.Perm.append_left
abbrev rq:=@List.getElem?_take
abbrev rr:=@List.mem_toArray
abbrev rt:=@decide_eq_true_eq
abbrev ru:=@List.flatten_append
abbrev rv:=@List.foldl_cons
abbrev rx:=@List.drop_eq_getElem_cons
abbrev ry:=@Array.getElem?_modify
abbrev rz:=@Array.mem_append
abbrev rC:=@List.mem_of_mem_eraseIdx
abbrev rD:=@Option.toList_some
abbrev rE:=@List.sum_cons
abbrev rF:=@List.getElem?_cons_succ
abbrev rG:=@Decidable.not_not
abbrev rH:=@List.foldl_append
abbrev rJ:=@List.set_set
abbrev rO:=@Nat.zero_add
abbrev rQ:=@List.eraseIdx_append_of_length_le
abbrev rR:=@beq_iff_eq
abbrev rS:=@List.length_take
abbrev rT:=@Array.getElem?_map
abbrev rU:=@Bool.false_ne_true
abbrev rW:=@Nat.lt_of_le_of_lt
abbrev rX:=@List.mem_or_eq_of_mem_set
abbrev rY:=@Array.mapM_eq_mapM_toList
abbrev rZ:=@Decidable.byContradiction
abbrev r4:=@Nat.add_mul
abbrev r5:=@List.eq_of_mem_replicate
abbrev r6:=@List.length_map
abbrev r7:=@List.size_toArray
abbrev r8:=@Option.bind_eq_some_iff
abbrev r9:=@List.length_eq_zero_iff
abbrev sa:=@List.mem_flatten
abbrev sb:=@List.find?_cons_of_neg
abbrev sc:=@Nat.testBit_lt_two_pow
abbrev sd:=@List.set_cons_zero
abbrev se:=@Nat.zero_mul
abbrev sf:=@Array.all_eq_true'
abbrev sg:=@Nat.sub_zero
abbrev si:=@List.pairwise_cons
abbrev sj:=@List.find?_eq_none
abbrev sk:=@Nat.min_eq_left
abbrev sn:=@List.length_replicate
abbrev so:=@Int.fdiv_eq_ediv_of_nonneg
abbrev sr:=@Nat.add_assoc
abbrev ss:=@List.length_eraseIdx_of_lt
abbrev su:=@of_decide_eq_true
abbrev sy:=@Nat.shiftRight_eq_div_pow
abbrev sB:=@Classical.byContradiction
abbrev sC:=@Nat.pow_lt_pow_right
abbrev sD:=@iff_of_false
abbrev sE:=@List.findIdx_lt_length_of_exists
abbrev sF:=@List.mem_map_of_mem
abbrev sG:=@List.replicate_succ
abbrev sH:=@List.getElem?_range
abbrev sI:=@Array.toList_filter
abbrev sJ:=@List.set_comm
abbrev sK:=@Bool.toNat_le
abbrev sL:=@Option.isSome_none
abbrev sM:=@List.nodup_cons
abbrev sN:=@List.forIn_cons
abbrev sO:=@List.mem_replicate
abbrev sP:=@List.mem_filter
abbrev sQ:=@List.drop_eq_nil_of_le
abbrev sR:=@Bool.not_eq_true'
abbrev sS:=@Nat.or_lt_two_pow
abbrev sT:=@List.length_range
abbrev sU:=@List.forIn_nil
abbrev sW:=@Array.mem_toList_iff
abbrev sX:=@BitVec.ofInt_natCast
abbrev sY:=@List.flatten_nil
abbrev sZ:=@BitVec.toNat_and
abbrev s0:=@Nat.eq_of_testBit_eq
abbrev s3:=@List.findIdx_getElem
abbrev s4:=@Std.Legacy.Range.forIn_eq_forIn_range'
abbrev s5:=@List.countP_pos_iff
abbrev s6:=@Nat.testBit_two_pow
abbrev s7:=@Nat.testBit_and
abbrev s9:=@Option.isSome_iff_exists
abbrev ta:=@List.set_cons_succ
abbrev tb:=@Array.append_empty
abbrev tc:=@Option.isSome_some
abbrev td:=@Array.setIfInBounds_comm
abbrev tf:=@Nat.sub_self
abbrev tg:=@BitVec.toNat_ofNat
abbrev th:=@Array.forIn_toList
abbrev ti:=@List.zip_cons_cons
abbrev tj:=@Bool.eq_false_or_eq_true
abbrev tk:=@Nat.one_le_two_pow
abbrev tl:=@Nat.mod_lt
abbrev tn:=@List.getElem?_replicate
abbrev tp:=@Bool.eq_false_iff
abbrev tq:=@Array.getElem?_extract
abbrev tr:=@Int.le_refl
abbrev ts:=@Array.toList_map
abbrev tt:=@Int.max_eq_right
abbrev tu:=@Int.min_eq_right
abbrev tv:=@Array.mem_iff_getElem
abbrev tx:=@List.eraseIdx_eq_take_drop_succ
abbrev tz:=@List.cons.injEq
abbrev tA:=@Nat.pow_succ
abbrev tB:=@Int.min_eq_left
abbrev tC:=@Int.max_eq_left
abbrev tD:=@List.take_append_of_le_length
abbrev tE:=@Nat.shiftLeft_add_eq_or_of_lt
abbrev tF:=@Int.mul_le_mul_of_nonneg_left
abbrev tG:=@Array.getElem?_push
abbrev tH:=@List.length_pos_iff
abbrev tI:=@List.filter_eq_self
abbrev tJ:=@Array.length_toList
abbrev tK:=@List.mapM_cons
abbrev tL:=@List.nodup_nil
abbrev tM:=@List.getElem?_drop
abbrev tN:=@List.getElem?_concat_length
abbrev tO:=@BitVec.toNat_ofInt
abbrev tP:=@List.map_singleton
abbrev tQ:=@Nat.testBit_two_pow_sub_one
abbrev tR:=@Classical.not_not
abbrev tS:=@List.pairwise_map
abbrev tT:=@List.exists_mem_of_ne_nil
abbrev tU:=@List.zipIdx_cons
abbrev tV:=@Nat.add_comm
abbrev tW:=@Prod.ext
abbrev tX:=@Array.toList_inj
abbrev tY:=@And.left
abbrev tZ:=@Int.mul_comm
abbrev t6:=@Nat.lt_succ_iff_lt_or_eq
abbrev t7:=@List.length_filterMap_le
abbrev t8:=@decide_eq_false_iff_not
abbrev t9:=@List.filter_cons_of_neg
abbrev ua:=@List.filter_cons_of_pos
abbrev ub:=@List.of_mem_zip
abbrev uc:=@BitVec.toNat_or
abbrev ud:=@Nat.and_le_left
abbrev ue:=@Nat.two_pow_pos
abbrev uf:=@List.range_succ
abbrev ug:=@iff_of_true
abbrev uh:=@Bool.not_false
abbrev ui:=@List.take_append_drop
abbrev uj:=@List.drop_zero
abbrev uk:=@Nat.testBit_or
abbrev ul:=@List.find?_map
abbrev um:=@List.foldl_nil
abbrev un:=@List.set_getElem_self
abbrev uo:=@List.pairwise_append
abbrev uq:=@List.mem_iff_getElem
abbrev ur:=@List.mem_of_mem_take
abbrev ut:=@Bool.not_true
abbrev uu:=@Bool.false_or
abbrev uv:=@Nat.ne_of_lt
abbrev uw:=@List.map_nil
abbrev ux:=@List.sum_nil
abbrev uy:=@congrFun
abbrev uz:=@and_true
abbrev tR_(n m:Nat):Array Bool:=⟨List.replicate n true++List.replicate m false⟩
abbrev LH:=Nat->Option Obj
structure St where
 E:LH
 H:LH
 q:Bool
abbrev Ld_:=List Deferred
abbrev Ao_:=Array Oper
abbrev Li_:=List Item
abbrev Lf_:=List Frame
abbrev On_:=Option (Nat×Bool)
abbrev Ae_:=Array Edge
abbrev Gs_:=Goroutine->St->Prop
abbrev Lv_:=List Value
abbrev Av_:=Array Value
def St.get(s:St)(b:Nat):Option Obj:=match s.E b with | some o=>some o | none=>s.H b
structure Fits (s:St) (w:World):Prop where
 e:∀b o,s.E b=some o->w.heap[b]?=some o
 h:∀b o,s.H b=some o->w.heap[b]?=some o
 d:∀b,s.E b≠none->s.H b=none
variable{w:World}{o:Obj}
theorem Fits.get{s:St}(f:Fits s w){b:Nat}(h:s.get b=some o):w.heap[b]?=some o:=by
 unfold St.get at h;split at h;rename_i o' K;cases h;exact f.e _ _ K;exact f.h _ _ h
theorem Fits.Xr{s:St}(f:Fits s w){b:Nat}(h:s.H b=some o):b<w.heap.size:=by
 have:=f.h _ _ h;rcases gD b w.heap.size with K | K;exact K;simp[qg K] at this
theorem Fits.lt{s:St}(f:Fits s w){b:Nat}(h:s.get b=some o):b<w.heap.size:=by
 have:=f.get h;rcases gD b w.heap.size with K | K;exact K;simp[qg K] at this
def cellAt(o:Obj)(a:Addr):Option Value:=match o with | .cells c _ _=>if a.spot.isSome then none else c[a.off]? | _=>none
def frozenAt(o:Obj)(a:Addr):Bool:=match o with | .cells _ _ (lo,hi)=>lo<=a.off&&a.off<hi | _=>false
def shapeOf(o:Obj):Option (TypeId×Nat):=match o with | .cells c e _=>some (e,c.size) | _=>none
def CM:Value->Bool | .agg _ | .tuple _=>false | _=>true
def LK(o:Obj)(a:Addr)(v:Value):Obj:=match o with | .cells c e f=>.cells (if a.spot.isSome then c else c.setIfInBounds a.off v) e f | o=>o
def KO(o:Obj):Bool:=match o with | .cells ..=>false | .chan ..=>false | .pending ..=>false | .view ..=>false | .number ..=>false | _=>true
def St.cell? (s:St)(a:Addr):Option Value:=(s.get a.block).bind (cellAt · a)
def St.upd(s:St)(b:Nat)(o:Obj):St:={s with H:=λx=>if x=b then some o else s.H x}
theorem TE{a:Addr}(h:w.heap[a.block]?=some o):w.cell? a=cellAt o a:=by
 unfold World.cell? cellAt;rw[h];cases o<;>rfl
theorem Tp{a:Addr}(h:w.heap[a.block]?=some o):w.frozen? a=frozenAt o a:=by
 unfold World.frozen? frozenAt;rw[h];cases o<;>rfl
theorem X7{b:Nat}(h:w.heap[b]?=some o):w.shape? b=shapeOf o:=by
 unfold World.shape? shapeOf;rw[h];cases o<;>rfl
def lp(P:Program){α:Type}:Sem α->St->(α->St->Prop)->(Halt->St->Prop)->Prop
 | .pure a,s,Q,_=>Q a s
 | .load m a k,s,Q,X=>m=.plain/\∃v,s.cell? a=some v/\lp P (k v) s Q X
 | .store m a v k,s,Q,X=>m=.plain/\CM v=true/\∃o,s.H a.block=some o/\(cellAt o a).isSome=true/\frozenAt o a=false/\lp P k (s.upd a.block (LK o a v)) Q X
 | .new o k,s,Q,X=>s.q=false/\∀r,s.E r=none->s.H r=none->lp P (k r) (s.upd r o) Q X
 | .shape r k,s,Q,X=>∃o,s.get r=some o/\lp P (k (shapeOf o)) s Q X
 | .freeze _ _ _,_,_,_=>False
 | .frozen a k,s,Q,X=>∃o,s.get a.block=some o/\lp P (k (frozenAt o a)) s Q X
 | .getObj r k,s,Q,X=>∃o,s.get r=some o/\KO o=true/\lp P (k o) s Q X
 | .setObj r o k,s,Q,X=>(∃o₀,s.H r=some o₀/\KO o₀=true)/\KO o=true/\lp P k (s.upd r o) Q X
 | .choose q k,s,Q,X=>if q.forced then lp P (k 0) s Q X else s.q=false/\∀t,lp P (k (q.cut t)) s Q X
 | .sys _ _,_,_,_=>False
 | .program k,s,Q,X=>lp P (k P) s Q X
 | .mark m k,s,Q,X=>((s.q=false/\m=.noRoom)∨∃f,m=.extern f)/\lp P k s Q X
 | .halt h,s,_,X=>X h s
variable{α:Type}
theorem Es{P:Program}(x:Sem α):∀{s:St}{Q Y:α->St->Prop}{X Z:Halt->St->Prop},lp P x s Q X->(∀a s,Q a s->Y a s)->(∀h s,X h s->Z h s)->lp P x s Y Z:=by
 induction x with
 | pure a=>intro s Q Y X Z h K O;exact K _ _ h
 | load m a k U=>intro s Q Y X Z h K O;obtain⟨ac,v,ag,ai⟩:=h;exact⟨ac,v,ag,U _ ai K O⟩
 | store m a v k U=>intro s Q Y X Z h K O;obtain⟨ac,ag,o,ai,am,ap,aq⟩:=h;exact⟨ac,ag,o,ai,am,ap,U aq K O⟩
 | new o k U=>intro s Q Y X Z h K O;exact⟨h.1,λr ac ag=>U _ (h.2 r ac ag) K O⟩
 | shape r k U=>intro s Q Y X Z h K O;obtain⟨o,ac,ag⟩:=h;exact⟨o,ac,U _ ag K O⟩
 | freeze a n k U=>intro s Q Y X Z h K O;exact h
 | frozen a k U=>intro s Q Y X Z h K O;obtain⟨o,ac,ag⟩:=h;exact⟨o,ac,U _ ag K O⟩
 | getObj r k U=>intro s Q Y X Z h K O;obtain⟨o,ac,ag,ai⟩:=h;exact⟨o,ac,ag,U _ ai K O⟩
 | setObj r o k U=>intro s Q Y X Z h K O;obtain⟨ac,ag,ai⟩:=h;exact⟨ac,ag,U ai K O⟩
 | choose q k U=>
  intro s Q Y X Z h K O;simp only[lp] at h ⊢;split;rename_i al;rw[d7 al] at h;exact U _ h K O;rename_i al;rw[d9 al] at h;exact⟨h.1,λt=>U _ (h.2 t) K O⟩
 | sys c k U=>intro s Q Y X Z h K O;exact h
 | program k U=>intro s Q Y X Z h K O;exact U _ h K O
 | mark m k U=>intro s Q Y X Z h K O;exact⟨h.1,U h.2 K O⟩
 | halt h=>intro s Q Y X Z h K O;exact O _ _ h
variable{β:Type}
theorem AA{P:Program}(x:Sem α)(f:α->Sem β):∀{s:St}{Q:β->St->Prop}{X:Halt->St->Prop},lp P x s (λa s'=>lp P (f a) s' Q X) X->lp P (x>>=f) s Q X:=by
 show ∀{s:St}{Q:β->St->Prop}{X:Halt->St->Prop},lp P x s (λa s'=>lp P (f a) s' Q X) X->lp P (Sem.bind x f) s Q X
 induction x with
 | pure a=>intro s Q X h;exact h
 | load m a k K=>intro s Q X h;obtain⟨O,v,U,Y⟩:=h;exact⟨O,v,U,K _ Y⟩
 | store m a v k K=>intro s Q X h;obtain⟨O,U,o,Y,ac,ag,ai⟩:=h;exact⟨O,U,o,Y,ac,ag,K ai⟩
 | new o k K=>intro s Q X h;exact⟨h.1,λr O U=>K _ (h.2 r O U)⟩
 | shape r k K=>intro s Q X h;obtain⟨o,O,U⟩:=h;exact⟨o,O,K _ U⟩
 | freeze a n k K=>intro s Q X h;exact h
 | frozen a k K=>intro s Q X h;obtain⟨o,O,U⟩:=h;exact⟨o,O,K _ U⟩
 | getObj r k K=>intro s Q X h;obtain⟨o,O,U,Y⟩:=h;exact⟨o,O,U,K _ Y⟩
 | setObj r o k K=>intro s Q X h;obtain⟨O,U,Y⟩:=h;exact⟨O,U,K Y⟩
 | choose q k K=>
  intro s Q X h;simp only[lp,Sem.bind] at h ⊢;split;rename_i Z;rw[d7 Z] at h;exact K _ h;rename_i Z;rw[d9 Z] at h;exact⟨h.1,λt=>K _ (h.2 t)⟩
 | sys c k K=>intro s Q X h;exact h
 | program k K=>intro s Q X h;exact K _ h
 | mark m k K=>intro s Q X h;exact⟨h.1,K h.2⟩
 | halt h=>intro s Q X h;exact h
structure Fr (s:St) (w:World) (s':St) (w':World):Prop where
 size:w.heap.size<=w'.heap.size
 keep:∀b,b<w.heap.size->s.H b=none->w'.heap[b]?=w.heap[b]?
 own:∀b,s'.H b≠none->s.H b≠none∨w.heap.size<=b
 ext:∀b o,s.E b=some o->s'.E b=some o
 Fp:∀b,s'.E b≠none->s.E b≠none∨s.H b≠none∨w.heap.size<=b
 tape:w'.tape=w.tape
 os:w'.os=w.os
 output:w'.output=w.output
theorem Fr.refl(s:St)(w:World):Fr s w s w:=
 ⟨oU _,λ_ _ _=>V,λ_ h=>.inl h,λ_ _ h=>h,λ_ h=>.inl h,V,V,V⟩
variable{U:World}
theorem Fr.trans{s K O:St}{Y:World}(h:Fr s w K U)(k:Fr K U O Y):Fr s w O Y where
 size:=qW h.size k.size
 keep b hb Z:=by
  rw[k.keep b (q6 hb h.size) ?_,h.keep b hb Z];by_cases ac:K.H b=none;exact ac;rcases h.own b ac with x | x;exact absurd Z x;omega
 own b hb:=by
  rcases k.own b hb with x | x;exact h.own b x;exact .inr (qW h.size x)
 ext b o ag:=k.ext b o (h.ext b o ag)
 Fp b hb:=by
  rcases k.Fp b hb with x | x | x;exact h.Fp b x;rcases h.own b x with y | y;exact .inr (.inl y);exact .inr (.inr y);exact .inr (.inr (qW h.size x))
 tape:=k.tape.trans h.tape
 os:=k.os.trans h.os
 output:=k.output.trans h.output
def Ht(s:St)(w w':World)(b:Nat)(write:Bool):Prop:=
 b<w'.heap.size/\(s.H b≠none∨w.heap.size<=b∨(s.E b≠none/\write=false))
def Ev(s:St)(w w':World)(e:Event):Prop:=
 match e.loc with
 | .cell a=>e.sync=false/\Ht s w w' a.block e.write
 | .obj r=>e.sync=false/\Ht s w w' r e.write
 | .mark (.extern _)=>True
 | .mark .noRoom=>True
 | _=>False
variable{O w':World}{wr:Bool}
theorem Ht.Ah{s K:St}{b:Nat}(h:Fr s w K O)(Y:w'.heap.size<=U.heap.size)(t:Ht K O w' b wr):Ht s w U b wr:=by
 refine⟨q6 t.1 Y,?_⟩;rcases t.2 with x | x | ⟨x,y⟩;rcases h.own b x with z | z;exact .inl z;exact .inr (.inl z);exact .inr (.inl (qW h.size x));rcases h.Fp b x with z | z | z;exact .inr (.inr ⟨z,y⟩);exact .inl z;exact .inr (.inl z)
theorem Ev.Ah{s K:St}{e:Event}(h:Fr s w K O)(Y:w'.heap.size<=U.heap.size)(t:Ev K O w' e):Ev s w U e:=by
 unfold Ev at t ⊢;split<;>rename_i he<;>simp only[he] at t;exact⟨t.1,t.2.Ah h Y⟩;exact⟨t.1,t.2.Ah h Y⟩;trivial;trivial
def LU{α:Type}:Result α->World | .ok _ w=>w | .halt _ w=>w
def fW{α:Type}(Q:α->St->Prop)(X:Halt->St->Prop)(s:St):Result α->Prop | .ok a _=>Q a s | .halt h _=>X h s
theorem UG{s:St}{b:Nat}(h:s.get b=some o)(K:s.H b=none):s.E b≠none:=by
 intro e;unfold St.get at h;rw[e] at h;simp only at h;rw[K] at h;cases h
theorem Rh{s:St}{b:Nat}(f:Fits s w)(U:s.E b=none)(hb:w'.heap[b]?=some o)(Y:∀c,c≠b->∀x,w.heap[c]?=some x->w'.heap[c]?=some x):Fits (s.upd b o) w' where
 e c x K:=by
  have O:c≠b:=λe=>by subst e;simp[St.upd] at K;rw[U] at K;cases K
  exact Y c O x (f.e c x K)
 h c x K:=by
  simp only[St.upd] at K;split at K;rename_i e;subst e;cases K;exact hb;rename_i O;exact Y c O x (f.h c x K)
 d c K:=by
  have O:c≠b:=λe=>by subst e;exact K U
  simp only[St.upd,d9 O];exact f.d c K
theorem OJ{P:Program}(x:Sem α):∀{s:St}{w:World}{Q:α->St->Prop}{X:Halt->St->Prop},lp P x s Q X->Fits s w->
  ∃s',Fits s' (LU (x.run P w))/\Fr s w s' (LU (x.run P w))/\(∀e∈x.events P w #[],Ev s w (LU (x.run P w)) e)/\fW Q X s' (x.run P w):=by
 induction x with
 | pure a=>intro s w Q X h f;exact⟨s,f,.refl _ _,by simp[Sem.events_pure'],h⟩
 | load m a k O=>
  intro s w Q X h f;obtain⟨rfl,v,a3,h⟩:=h;let⟨o,K,bn⟩:=r8.1 a3;have hw:=f.get K;have a4:w.cell? a=some v:=by rw[TE hw,bn]
  have U:(Sem.load Mode.plain a k).run P w=(k v).run P w:=by simp[Sem.run,a4]
  have Y:(Sem.load Mode.plain a k).events P w #[]=#[⟨.cell a,false,false⟩]++(k v).events P w #[]:=by
   rw[← Sem.events_acc];simp only[Sem.events,Sem.runT,a4];rfl
  rw[U,Y];let⟨s',ac,Z,ag,ai⟩:=O v h f;refine⟨s',ac,Z,λe he=>?_,ai⟩;rcases rz.1 he with he | he;simp at he;subst he;refine⟨V,q6 (f.lt K) Z.size,?_⟩;by_cases ay:s.H a.block=none;refine .inr (.inr ⟨?_,V⟩);exact UG K ay;exact .inl ay;exact ag e he
 | store m a v k O=>
  intro s w Q X h f;obtain⟨rfl,a3,o,K,a4,bo,h⟩:=h;have hw:=f.h _ _ K;let⟨u,hu⟩:=s9.1 a4;have a9:w.cell? a=some u:=by rw[TE hw,hu]
  have bb:w.frozen? a=false:=by rw[Tp hw,bo]
  have a5:=f.Xr K;obtain⟨a7,a8,f0,rfl⟩:∃c e f,o=.cells c e f:=by cases o<;>simp[cellAt] at hu;exact⟨_,_,_,V⟩
  have bv:(w.setCell a v).heap[a.block]?=some (LK (.cells a7 a8 f0) a v):=by
   simp[World.setCell,LK,ry,hw]
  have az:∀c,c≠a.block->(w.setCell a v).heap[c]?=w.heap[c]? :=by
   intro c ap;simp[World.setCell,ry,qH ap]
  have am:s.E a.block=none:=by
   cases am:s.E a.block with
   | none=>rfl
   | some x=>have:=f.d a.block (by rw[am];simp);rw[K] at this;cases this
  have a0:Fits (s.upd a.block (LK (.cells a7 a8 f0) a v)) (w.setCell a v):=Rh f am bv (λc ap x aq=>by rw[az c ap];exact aq);have U:(Sem.store Mode.plain a v k).run P w=k.run P (w.setCell a v):=by
   cases v<;>first | (simp[CM] at a3;done) | simp[Sem.run,a9,bb]
  have Y:(Sem.store Mode.plain a v k).events P w #[]=#[⟨.cell a,true,false⟩]++k.events P (w.setCell a v) #[]:=by
   rw[← Sem.events_acc];cases v<;>first | (simp[CM] at a3;done) | (simp only[Sem.events,Sem.runT,a9,bb];rfl)
  have al:Fr s w (s.upd a.block (LK (.cells a7 a8 f0) a v)) (w.setCell a v):=by
   refine⟨by simp[World.setCell],λb hb av=>az b (λe=>by subst e;rw[K] at av;cases av),λb hb=>?_,λ_ _ h=>h,λ_ h=>.inl h,V,V,V⟩;simp only[St.upd] at hb;split at hb;rename_i e;subst e;exact .inl (by rw[K];simp);exact .inl hb
  rw[U,Y];let⟨s',ac,Z,ag,ai⟩:=O h a0;refine⟨s',ac,al.trans Z,λe he=>?_,ai⟩;rcases rz.1 he with he | he;simp at he;subst he;exact⟨V,q6 a5 (al.trans Z).size,.inl (by rw[K];simp)⟩;exact(ag e he).Ah al (oU _)
 | new o k O=>
  intro s w Q X h f;have be:s.E w.heap.size=none:=by
   cases am:s.E w.heap.size with
   | none=>rfl
   | some x=>have:=f.e _ _ am;simp at this
  have bw:s.H w.heap.size=none:=by
   cases am:s.H w.heap.size with
   | none=>rfl
   | some x=>have:=f.h _ _ am;simp at this
  have U:(Sem.new o k).run P w=(k w.heap.size).run P {w with heap:=w.heap.push o}:=by simp[Sem.run]
  have Y:(Sem.new o k).events P w #[]=(k w.heap.size).events P {w with heap:=w.heap.push o} #[]:=by simp only[Sem.events,Sem.runT]
  rw[U,Y];have a0:Fits (s.upd w.heap.size o) {w with heap:=w.heap.push o}:=Rh f be (by simp) (λc ap x aq=>by
   have:c<w.heap.size:=by
    rcases gD c w.heap.size with a1 | a1;exact a1;simp[qg a1] at aq
   simp[tG,uv this,aq])
  have al:Fr s w (s.upd w.heap.size o) {w with heap:=w.heap.push o}:=by
   refine⟨by simp,λb hb av=>by simp[tG,uv hb],λb hb=>?_,λ_ _ h=>h,λ_ h=>.inl h,V,V,V⟩;simp only[St.upd] at hb;split at hb;rename_i e;subst e;exact .inr (oU _);exact .inl hb
  let⟨s',ac,Z,ag,ai⟩:=O _ (h.2 _ be bw) a0;exact⟨s',ac,al.trans Z,λe he=>(ag e he).Ah al (oU _),ai⟩
 | shape r k O=>
  intro s w Q X h f;obtain⟨o,K,h⟩:=h;have a2:=X7 (f.get K);have U:(Sem.shape r k).run P w=(k (shapeOf o)).run P w:=by simp[Sem.run,a2]
  have Y:(Sem.shape r k).events P w #[]=(k (shapeOf o)).events P w #[]:=by simp only[Sem.events,Sem.runT,a2]
  rw[U,Y];exact O _ h f
 | freeze a n k O=>intro s w Q X h f;exact h.elim
 | frozen a k O=>
  intro s w Q X h f;obtain⟨o,K,h⟩:=h;have a2:=Tp (a:=a) (f.get K);have U:(Sem.frozen a k).run P w=(k (frozenAt o a)).run P w:=by simp[Sem.run,a2]
  have Y:(Sem.frozen a k).events P w #[]=(k (frozenAt o a)).events P w #[]:=by simp only[Sem.events,Sem.runT,a2]
  rw[U,Y];exact O _ h f
 | getObj r k O=>
  intro s w Q X h f;obtain⟨o,K,a6,h⟩:=h;have hw:=f.get K;have U:(Sem.getObj r k).run P w=(k o).run P w:=by cases o<;>simp[KO] at a6<;>simp[Sem.run,hw]
  have Y:(Sem.getObj r k).events P w #[]=#[⟨.obj r,false,false⟩]++(k o).events P w #[]:=by
   rw[← Sem.events_acc];cases o<;>simp[KO] at a6<;>(simp only[Sem.events,Sem.runT,hw,Obj.isChan];rfl)
  rw[U,Y];let⟨s',ac,Z,ag,ai⟩:=O o h f;refine⟨s',ac,Z,λe he=>?_,ai⟩;rcases rz.1 he with he | he;simp at he;subst he;refine⟨V,q6 (f.lt K) Z.size,?_⟩;by_cases ay:s.H r=none;refine .inr (.inr ⟨?_,V⟩);exact UG K ay;exact .inl ay;exact ag e he
 | setObj r o k O=>
  intro s w Q X h f;obtain⟨⟨o₀,K,bi⟩,a6,h⟩:=h;have hw:=f.h _ _ K;have a5:=f.Xr K;have am:s.E r=none:=by
   cases am:s.E r with
   | none=>rfl
   | some x=>have:=f.d r (by rw[am];simp);rw[K] at this;cases this
  have U:(Sem.setObj r o k).run P w=k.run P {w with heap:=w.heap.setIfInBounds r o}:=by
   cases o₀<;>simp[KO] at bi<;>simp[Sem.run,hw]
  have Y:(Sem.setObj r o k).events P w #[]=#[⟨.obj r,true,false⟩]++k.events P {w with heap:=w.heap.setIfInBounds r o} #[]:=by
   rw[← Sem.events_acc];cases o₀<;>simp[KO] at bi<;>cases o<;>simp[KO] at a6<;>(simp only[Sem.events,Sem.runT,hw,Obj.isChan];rfl)
  have az:∀c,c≠r->(w.heap.setIfInBounds r o)[c]?=w.heap[c]? :=λc ap=>by simp[qH ap]
  have a0:Fits (s.upd r o) {w with heap:=w.heap.setIfInBounds r o}:=Rh f am (by simp[a5]) (λc ap x aq=>by show(w.heap.setIfInBounds r o)[c]?=_;rw[az c ap];exact aq);have al:Fr s w (s.upd r o) {w with heap:=w.heap.setIfInBounds r o}:=by
   refine⟨by simp,λb hb av=>az b (λe=>by subst e;rw[K] at av;cases av),λb hb=>?_,λ_ _ h=>h,λ_ h=>.inl h,V,V,V⟩;simp only[St.upd] at hb;split at hb;rename_i e;subst e;exact .inl (by rw[K];simp);exact .inl hb
  rw[U,Y];let⟨s',ac,Z,ag,ai⟩:=O h a0;refine⟨s',ac,al.trans Z,λe he=>?_,ai⟩;rcases rz.1 he with he | he;simp at he;subst he;exact⟨V,q6 a5 (al.trans Z).size,.inl (by rw[K];simp)⟩;exact(ag e he).Ah al (oU _)
 | choose q k O=>
  intro s w Q X h f;simp only[lp] at h;by_cases aw:q.forced
  .rw [d7 aw] at h;have U:(Sem.choose q k).run P w=(k 0).run P w:=by simp[Sem.run,aw]
   have Y:(Sem.choose q k).events P w #[]=(k 0).events P w #[]:=by simp only[Sem.events,Sem.runT];rw[d7 aw]
   rw[U,Y];exact O _ h f
  .rw [d9 aw] at h;have U:(Sem.choose q k).run P w=(k (q.cut (w.tape w.drawn q))).run P {w with drawn:=w.drawn+1}:=by simp[Sem.run,aw]
   have Y:(Sem.choose q k).events P w #[]=(k (q.cut (w.tape w.drawn q))).events P {w with drawn:=w.drawn+1} #[]:=by simp only[Sem.events,Sem.runT];rw[d9 aw]
   rw[U,Y];have al:Fr s w s {w with drawn:=w.drawn+1}:=⟨oU _,λ_ _ _=>rfl,λ_ h=>.inl h,λ_ _ h=>h,λ_ h=>.inl h,rfl,rfl,rfl⟩;let⟨s',ac,Z,ag,ai⟩:=O _ (h.2 (w.tape w.drawn q)) (⟨f.e,f.h,f.d⟩:Fits s {w with drawn:=w.drawn+1});exact⟨s',ac,al.trans Z,λe he=>(ag e he).Ah al (oU _),ai⟩
 | sys c k O=>intro s w Q X h f;exact h.elim
 | program k O=>
  intro s w Q X h f;have U:(Sem.program k).run P w=(k P).run P w:=by simp[Sem.run]
  have Y:(Sem.program k).events P w #[]=(k P).events P w #[]:=by simp only[Sem.events,Sem.runT]
  rw[U,Y];exact O _ h f
 | mark m k O=>
  intro s w Q X h f;have U:(Sem.mark m k).run P w=k.run P w:=by simp[Sem.run]
  have Y:(Sem.mark m k).events P w #[]=#[⟨.mark m,false,true⟩]++k.events P w #[]:=by
   rw[← Sem.events_acc];simp only[Sem.events,Sem.runT];rfl
  rw[U,Y];obtain⟨hm,h⟩:=h;let⟨s',ac,Z,ag,ai⟩:=O h f;refine⟨s',ac,Z,λe he=>?_,ai⟩;rcases rz.1 he with he | he;simp at he;subst he;rcases hm with⟨_,rfl⟩ | ⟨g,rfl⟩<;>trivial;exact ag e he
 | halt h=>intro s w Q X a1 f;exact⟨s,f,.refl _ _,by simp[Sem.events_halt],a1⟩
variable{es:Array Event}
theorem Tm{P:Program}{fn:FuncId}(h:∀e∈es,∃f,e.loc=.mark (.extern f)):seen P fn es=#[]:=by
 rw[seen_def];have:∀(l:List Event) (q:Bool),(∀e∈l,∃f,e.loc=.mark (.extern f))->(l.foldl (seenStep λf=>(P.funcs[f]?).any (·.norace)) (q,#[])).2=#[]:=by
  intro l
  induction l with
  | nil=>intro q _;rfl
  | cons e l K=>
   intro q h;obtain⟨f,O⟩:=h e (by simp);rw[rv];have:seenStep (λf=>(P.funcs[f]?).any (·.norace)) (q,#[]) e=((P.funcs[f]?).any (·.norace),#[]):=by simp[seenStep,O]
   rw[this];exact K _ λx U=>h x (by simp[U])
 exact this es.toList _ λe he=>h e (sW.1 he)
def St.quiet:St:=⟨λ_=>none,λ_=>none,true⟩
theorem UN{P:Program}(x:Sem α):∀{Q:α->St->Prop}{X:Halt->St->Prop},lp P x .quiet Q X->
  ∃es,(∀w,x.events P w #[]=es)/\(∀e∈es,∃f,e.loc=.mark (.extern f))/\((∃a,Q a .quiet/\(∀w,x.run P w=.ok a w))∨(∃a,X a .quiet/\(∀w,x.run P w=.halt a w))):=by
 induction x with
 | pure a=>intro Q X h;exact⟨#[],λw=>by simp[Sem.events_pure'],by simp,.inl ⟨a,h,λw=>rfl⟩⟩
 | load m a k K=>intro Q X h;obtain⟨_,v,Z,_⟩:=h;simp[St.cell?,St.get,St.quiet] at Z
 | store m a v k K=>intro Q X h;obtain⟨_,_,o,ac,_⟩:=h;cases ac
 | new o k K=>intro Q X h;cases h.1
 | shape r k K=>intro Q X h;obtain⟨o,O,_⟩:=h;simp[St.get,St.quiet] at O
 | freeze a n k K=>intro Q X h;exact h.elim
 | frozen a k K=>intro Q X h;obtain⟨o,O,_⟩:=h;simp[St.get,St.quiet] at O
 | getObj r k K=>intro Q X h;obtain⟨o,O,_⟩:=h;simp[St.get,St.quiet] at O
 | setObj r o k K=>intro Q X h;obtain⟨⟨o,O,_⟩,_⟩:=h;cases O
 | choose q k K=>
  intro Q X h;simp only[lp] at h;by_cases U:q.forced
  .rw [d7 U] at h;have Y:∀w,(Sem.choose q k).run P w=(k 0).run P w:=λw=>by simp[Sem.run,U]
   have e2:∀w,(Sem.choose q k).events P w #[]=(k 0).events P w #[]:=λw=>by simp only[Sem.events,Sem.runT];rw[d7 U]
   simpa only[Y,e2] using K _ h
  .rw [d9 U] at h;cases h.1
 | sys c k K=>intro Q X h;exact h.elim
 | program k K=>
  intro Q X h;have Y:∀w,(Sem.program k).run P w=(k P).run P w:=λw=>by simp[Sem.run]
  have e2:∀w,(Sem.program k).events P w #[]=(k P).events P w #[]:=λw=>by simp only[Sem.events,Sem.runT]
  simpa only[Y,e2] using K _ h
 | mark m k K=>
  intro Q X h;obtain⟨hm,h⟩:=h;let⟨es,O,Z,ac⟩:=K h;have Y:∀w,(Sem.mark m k).run P w=k.run P w:=λw=>by simp[Sem.run]
  have e2:∀w,(Sem.mark m k).events P w #[]=#[⟨.mark m,false,true⟩]++k.events P w #[]:=λw=>by rw[← Sem.events_acc];simp only[Sem.events,Sem.runT];rfl
  refine⟨#[⟨.mark m,false,true⟩]++es,λw=>by rw[e2,O],λe he=>?_,by simpa only[Y] using ac⟩;rcases rz.1 he with he | he;simp at he;subst he;rcases hm with⟨U,_⟩ | hm;cases U;obtain⟨f,rfl⟩:=hm;exact⟨f,V⟩;exact Z e he
 | halt h=>intro Q X ag;exact⟨#[],λw=>by simp[Sem.events_halt],by simp,.inr ⟨h,ag,λw=>rfl⟩⟩
def Ww(P:Program)(main:Bool)(g:Goroutine)(s:St)(K:Gs_):Prop:=
 g.status=.running/\(∀w,Fits s w->
  ∃g' s' w' es,stepG P main g w=.go g' w' es/\K g' s'/\Fits s' w'/\Fr s w s' w'/\(∀e∈es,Ev s w w' e))/\
  (s=.quiet->∃g',(∀w,stepG P main g w=.go g' w #[])/\K g' .quiet)
structure Cx (s s₀:St):Prop where
 ext:∀b o,s.E b=some o->s₀.E b=some o
 own:∀b o,s₀.H b=some o->s.H b=some o
 Fp:∀b o,s₀.E b=some o->s.E b=some o∨(s.H b=some o/\s₀.H b=none)
 q:s₀.q=s.q
theorem Cx.refl(s:St):Cx s s:=⟨λ_ _ h=>h,λ_ _ h=>h,λ_ _ h=>.inl h,V⟩
variable{s₀:St}
theorem Cx.fits{s:St}(g:Cx s s₀)(f:Fits s w):Fits s₀ w where
 e b o h:=by
  rcases g.Fp b o h with x | x;exact f.e _ _ x;exact f.h _ _ x.1
 h b o h:=f.h _ _ (g.own _ _ h)
 d b h:=by
  cases K:s₀.E b with
  | none=>exact absurd K h
  | some o=>
   rcases g.Fp b o K with x | x
   .cases O:s₀.H b with
    | none=>rfl
    | some y=>have:=g.own _ _ O;rw[f.d b (by rw[x];simp)] at this;cases this
   .exact x.2
theorem IP{x:Option α}(h:x≠none):∃a,x=some a:=by cases x<;>simp at h;exact⟨_,rfl⟩
theorem Cx.fr{s s':St}(g:Cx s s₀)(f:Fr s₀ w s' w'):Fr s w s' w' where
 size:=f.size
 keep b hb O:=f.keep b hb (by
  cases h:s₀.H b with
  | none=>rfl
  | some o=>rw[g.own _ _ h] at O;cases O)
 own b hb:=(f.own b hb).imp (λh=>by let⟨o,K⟩:=IP h;rw[g.own _ _ K];simp) id
 ext b o h:=f.ext _ _ (g.ext _ _ h)
 Fp b hb:=by
  rcases f.Fp b hb with h | h | h;let⟨o,K⟩:=IP h;rcases g.Fp _ _ K with x | x;exact .inl (by rw[x];simp);exact .inr (.inl (by rw[x.1];simp));let⟨o,K⟩:=IP h;exact .inr (.inl (by rw[g.own _ _ K];simp));exact .inr (.inr h)
 tape:=f.tape
 os:=f.os
 output:=f.output
theorem Cx.Ht{s:St}{b:Nat}(g:Cx s s₀)(t:Ht s₀ w w' b wr):Ht s w w' b wr:=by
 refine⟨t.1,?_⟩;rcases t.2 with h | h | ⟨h,hw⟩;let⟨o,K⟩:=IP h;exact .inl (by rw[g.own _ _ K];simp);exact .inr (.inl h);let⟨o,K⟩:=IP h;rcases g.Fp _ _ K with x | x;exact .inr (.inr ⟨by rw[x];simp,hw⟩);exact .inl (by rw[x.1];simp)
theorem Cx.ev{s:St}{e:Event}(g:Cx s s₀)(t:Ev s₀ w w' e):Ev s w w' e:=by
 unfold Ev at t ⊢;split<;>rename_i he<;>simp only[he] at t;exact⟨t.1,g.Ht t.2⟩;exact⟨t.1,g.Ht t.2⟩;trivial;trivial
theorem Cx.quiet(g:Cx .quiet s₀):s₀=.quiet:=by
 obtain⟨E,H,q⟩:=s₀;have K:E=λ_=>none:=by
  funext b;cases h:E b with
  | none=>rfl
  | some o=>rcases g.Fp b o h with x | ⟨x,_⟩<;>cases x
 have O:H=λ_=>none:=by
  funext b;cases h:H b with
  | none=>rfl
  | some o=>cases g.own b o h
 have U:q=true:=g.q;subst K O U;rfl
inductive Rk:Type where
 | leaf:Rk
 | node (f:World->Rk):Rk
def Rk.sub(a b:Rk):Prop:=∃f w,b=.node f/\a=f w
theorem Rk.wf:WellFounded Rk.sub:=⟨λr=>by
 induction r with
 | leaf=>exact⟨_,λa ⟨f,w,h,_⟩=>by cases h⟩
 | node f K=>exact⟨_,λa ⟨g,w,h,e⟩=>by cases h;subst e;exact K w⟩⟩
def Jr(P:Program)(main:Bool)(Q:Gs_):Rk->Gs_
 | .leaf,g,s=>Q g s
 | .node f,g,s=>Q g s∨(g.status=.running/\∀w,Fits s w->
  ∃g' s' w' es,stepG P main g w=.go g' w' es/\Jr P main Q (f w) g' s'/\Fits s' w'/\Fr s w s' w'/\(∀e∈es,Ev s w w' e)/\(s=.quiet->s'=.quiet/\w'=w/\es=#[]))
structure Judge (P:Program) where
 main:Bool
 ok:(Gs_)->Gs_
 stop:∀{Q g s},Q g s->ok Q g s
 step:∀{Q g s},Ww P main g s (ok Q)->ok Q g s
 trans:∀{Q R g s},ok Q g s->(∀g' s',Q g' s'->ok R g' s')->ok R g s
 ghost:∀{Q g s s₀},Cx s s₀->ok Q g s₀->ok Q g s
def JQ(Q:Gs_)(g:Goroutine)(s:St):Prop:=∃s₀,Cx s s₀/\Q g s₀
theorem Cx.trans{a b c:St}(h:Cx a b)(k:Cx b c):Cx a c where
 ext x o y:=k.ext _ _ (h.ext _ _ y)
 own x o y:=h.own _ _ (k.own _ _ y)
 Fp x o y:=by
  rcases k.Fp x o y with z | z
  .rcases h.Fp x o z with u | u;exact .inl u
   .refine .inr ⟨u.1,?_⟩;cases K:c.H x with
    | none=>rfl
    | some v=>have:=k.own _ _ K;rw[u.2] at this;cases this
  .exact .inr ⟨h.own _ _ z.1,z.2⟩
 q:=k.q.trans h.q
def A7(P:Program)(main:Bool):Judge P where
 main:=main
 ok Q g s:=∃r,Jr P main (JQ Q) r g s
 stop h:=⟨.leaf,_,.refl _,h⟩
 step {Q g s} h:=by
  obtain⟨U,h,hu⟩:=h;have ai:∀w,∃r:Rk,Fits s w->∃g' s' w' es,stepG P main g w=.go g' w' es/\Jr P main (JQ Q) r g' s'/\Fits s' w'/\Fr s w s' w'/\(∀e∈es,Ev s w w' e)/\(s=.quiet->s'=.quiet/\w'=w/\es=#[]):=by
   intro w;by_cases f:Fits s w
   .by_cases e:s=.quiet
    .let⟨g',K,r,O⟩:=hu e;exact⟨r,λ_=>⟨g',.quiet,w,#[],K w,O,e▸f,e▸ .refl _ _,by simp,λ_=>⟨V,V,V⟩⟩⟩
    .let⟨g',s',w',es,K,⟨r,O⟩,ac,al,am⟩:=h w f;exact⟨r,λ_=>⟨g',s',w',es,K,O,ac,al,am,λx=>absurd x e⟩⟩
   .exact⟨.leaf,λx=>absurd x f⟩
  exact⟨.node λw=>Classical.choose (ai w),.inr ⟨U,λw f=>rm (ai w) f⟩⟩
 trans {Q R g s} h k:=by
  obtain⟨r,h⟩:=h;have aq:∀(r:Rk) {g:Goroutine}{s s₀:St},Cx s s₀->Jr P main (JQ R) r g s₀->Jr P main (JQ R) r g s:=by
   intro r g s s₀ Y Z;cases r with
   | leaf=>obtain⟨ag,K,O⟩:=Z;exact⟨ag,Y.trans K,O⟩
   | node f=>
    rcases Z with⟨ag,K,O⟩ | ⟨U,Z⟩
    .exact .inl ⟨ag,Y.trans K,O⟩
    .exact .inr ⟨U,λw f=>let ⟨g',s',w',es,K,O,ac,al,am,ap⟩:=Z w (Y.fits f);⟨g',s',w',es,K,O,ac,Y.fr al,λe he=>Y.ev (am e he),λe=>ap (by subst e;exact Y.quiet)⟩⟩
  induction r generalizing g s with
  | leaf=>
   obtain⟨s₀,K,O⟩:=h;let⟨r,U⟩:=k _ _ O;exact⟨r,aq r K U⟩
  | node f aw=>
   rcases h with⟨s₀,K,O⟩ | ⟨U,h⟩
   .let⟨r,U⟩:=k _ _ O;exact⟨r,aq r K U⟩
   .have ai:∀w,∃r:Rk,Fits s w->∃g' s' w' es,stepG P main g w=.go g' w' es/\Jr P main (JQ R) r g' s'/\Fits s' w'/\Fr s w s' w'/\(∀e∈es,Ev s w w' e)/\(s=.quiet->s'=.quiet/\w'=w/\es=#[]):=by
     intro w;by_cases av:Fits s w
     .let⟨g',s',w',es,K,O,ac⟩:=h w av;let⟨r,U⟩:=aw w O;exact⟨r,λ_=>⟨g',s',w',es,K,U,ac⟩⟩
     .exact⟨.leaf,λx=>absurd x av⟩
    exact⟨.node λw=>Classical.choose (ai w),.inr ⟨U,λw f=>rm (ai w) f⟩⟩
 ghost {Q g s s₀} Y h:=by
  obtain⟨r,Z⟩:=h;refine⟨r,?_⟩;cases r with
  | leaf=>obtain⟨ag,K,O⟩:=Z;exact⟨ag,Y.trans K,O⟩
  | node f=>
   rcases Z with⟨ag,K,O⟩ | ⟨U,Z⟩
   .exact .inl ⟨ag,Y.trans K,O⟩
   .exact .inr ⟨U,λw f=>let ⟨g',s',w',es,K,O,ac,al,am,ap⟩:=Z w (Y.fits f);⟨g',s',w',es,K,O,ac,Y.fr al,λe he=>Y.ev (am e he),λe=>ap (by subst e;exact Y.quiet)⟩⟩
def Lv(P:Program)(Q:Gs_):Nat->Goroutine->Prop
 | 0,g=>Q g .quiet
 | n+1,g=>Q g .quiet∨(g.status=.running/\∃g',(∀w,stepG P false g w=.go g' w #[])/\Lv P Q n g')
def IU(P:Program):Judge P where
 main:=false
 ok Q g s:=s=.quiet->∃n,Lv P Q n g
 stop h e:=⟨0,by subst e;exact h⟩
 step {Q g s} h e:=by
  let⟨g',K,O⟩:=h.2.2 e;let⟨n,U⟩:=O V;exact⟨n+1,.inr ⟨h.1,g',K,U⟩⟩
 trans {Q R g s} h k e:=by
  let⟨n,U⟩:=h e;have:∀n g,Lv P Q n g->∃m,Lv P R m g:=by
   intro n
   induction n with
   | zero=>intro g h;exact k _ _ h rfl
   | succ n Y=>
    intro g h;rcases h with h | ⟨Z,g',K,O⟩
    .exact k _ _ h V
    .let⟨m,hm⟩:=Y g' O;exact⟨m+1,.inr ⟨Z,g',K,hm⟩⟩
  exact this n g U
 ghost {Q g s s₀} ac h e:=by subst e;exact h ac.quiet
def fr(b:Frame)(T:Av_)(ds:Ld_)(todo:Li_):Frame:={b with tmps:=T,todo:=todo,defers:=ds,mode:=.run}
def EP(b:Frame)(T:Av_)(ds:Ld_)(todo:Li_):Frame:={b with tmps:=T,todo:=todo,defers:=ds,mode:=.returning}
def BK(T:Av_):Operand->Value
 | .tmp t=>T.getD t undef
 | .const v=>v
 | .global g=>.pointer (some ⟨g,0,none⟩)
 | .func f=>.func (.func f) #[] #[]
abbrev Env:=List (Nat×Value)
def look:Env->Nat->Option Value
 | [],_=>none
 | (t,v)::L,u=>if t=u then some v else look L u
def ev(L:Env):Operand->Option Value
 | .tmp t=>look L t
 | .const v=>some v
 | .global g=>some (.pointer (some ⟨g,0,none⟩))
 | .func f=>some (.func (.func f) #[] #[])
structure Has (n:Nat) (L:Env) (T:Av_):Prop where
 size:T.size=n
 at_:∀t v,look L t=some v->T.getD t undef=v
variable{T:Av_}
theorem Has.ev{n:Nat}{L:Env}(h:Has n L T){x:Operand}{v:Value}(e:ev L x=some v):BK T x=v:=by
 cases x with
 | tmp t=>exact h.at_ t v e
 | const u=>cases e;rfl
 | global g=>cases e;rfl
 | func f=>cases e;rfl
def C6(T:Av_):Option Tmp->Value->Av_
 | some d,v=>T.setIfInBounds d v
 | none,_=>T
def AB(L:Env):Option Tmp->Value->Env
 | some d,v=>(d,v)::L
 | none,_=>L
def Bu(n:Nat):Option Tmp->Bool
 | some d=>d<n
 | none=>true
theorem bj(T:Av_)(d:Nat)(v:Value)(h:d<T.size)(t:Nat):(T.setIfInBounds d v).getD t undef=if d=t then v else T.getD t undef:=by
 by_cases e:d=t;subst e;simp[gR,h];simp[gR,e]
theorem Has.put{n:Nat}{L:Env}(h:Has n L T){d:Option Tmp}(hd:Bu n d=true)(v:Value):Has n (AB L d v) (C6 T d v):=by
 cases d with
 | none=>exact h
 | some d=>
  have K:d<T.size:=by rw[h.size];simpa [Bu] using hd
  refine⟨by simp[C6,h.size],λt u hu=>?_⟩;simp only[C6,bj T d v K];simp only[AB,look] at hu;split at hu;rename_i e;rw[d7 e];exact f6 hu;rename_i e;rw[d9 e];exact h.at_ t u hu
def Sub:Env->Env->Prop
 | [],_=>True
 | (t,v)::L',L=>look L t=some v/\Sub L' L
theorem Sub.look{L:Env}:∀{L':Env},Sub L' L->∀t v,look L' t=some v->Pal.look L t=some v
 | [],_,t,v,e=>by simp[Pal.look] at e
 | (u,w)::L',h,t,v,e=>by
  simp only[Pal.look] at e
  split at e;rename_i K;subst K;cases e;exact h.1;exact Sub.look h.2 t v e
theorem Has.sub{n:Nat}{L L':Env}(h:Has n L T)(s:Sub L' L):Has n L' T:=⟨h.size,λt v e=>h.at_ t v (s.look t v e)⟩
variable {P:Program}
section
variable (J:Judge P)(Q:Gs_)
def JL(b:Frame)(n:Nat)(L:Env)(ds:Ld_)(todo:Li_)(cs:Lf_)(s:St):Prop:=
 ∀T,Has n L T->J.ok Q (G (fr b T ds todo) cs) s
end
variable {J:Judge P}{Q:Gs_}{L L':Env}{ds:Ld_}{k:Li_}{cs:Lf_}{s s':St}
variable{l:Nat}
section
variable {b:Frame}{n:Nat}
theorem Judge.DO{g g':Goroutine}(K:g.status=.running)(h:∀w,stepG P J.main g w=.go g' w)(k:J.ok Q g' s):J.ok Q g s:=
 J.step ⟨K,λw f=>⟨g',s,w,#[],h w,k,f,.refl _ _,by simp⟩,λe=>⟨g',h,e▸k⟩⟩
theorem EF(h:Sub L' L)(k':JL J Q b n L' ds k cs s):JL J Q b n L ds k cs s:=λT K=>k' T (K.sub h)
theorem JL.ghost(h:Cx s s')(k':JL J Q b n L ds k cs s'):JL J Q b n L ds k cs s:=λT K=>J.ghost h (k' T K)
theorem JL.skip(h:JL J Q b n L ds k cs s):JL J Q b n L ds (.code .skip::k) cs s:=λT K=>Judge.DO V (λw=>by simp[G,stepG,stepG.exec,fr]) (h T K)
theorem JL.label(h:JL J Q b n L ds k cs s):JL J Q b n L ds (.code (.label l)::k) cs s:=λT K=>Judge.DO V (λw=>by simp[G,stepG,stepG.exec,fr]) (h T K)
theorem Ow{i:Nat}(h:JL J Q b n L ds k cs s):JL J Q b n L ds (.inBlock i::k) cs s:=λT K=>Judge.DO V (λw=>by simp[G,stepG,stepG.exec,fr]) (h T K)
theorem Yc{c:Code}(h:JL J Q b n L ds k cs s):JL J Q b n L ds (.inScope c::k) cs s:=λT K=>Judge.DO V (λw=>by simp[G,stepG,stepG.exec,fr]) (h T K)
theorem JL.seq{x y:Code}(h:JL J Q b n L ds (.code x:: .code y::k) cs s):JL J Q b n L ds (.code (.seq x y)::k) cs s:=λT K=>Judge.DO V (λw=>by simp[G,stepG,stepG.exec,fr]) (h T K)
theorem JL.block{i:Nat}{c:Code}(h:JL J Q b n L ds (.code c:: .inBlock i::k) cs s):JL J Q b n L ds (.code (.block i c)::k) cs s:=λT K=>Judge.DO V (λw=>by simp[G,stepG,stepG.exec,fr]) (h T K)
theorem JL.scope{c:Code}(h:JL J Q b n L ds (.code c:: .inScope c::k) cs s):JL J Q b n L ds (.code (.scope c)::k) cs s:=λT K=>Judge.DO V (λw=>by simp[G,stepG,stepG.exec,fr]) (h T K)
theorem IT{c:Code}(h:JL J Q b n L ds (.code c:: .inLoop c::k) cs s):JL J Q b n L ds (.code (.loop c)::k) cs s:=λT K=>Judge.DO V (λw=>by simp[G,stepG,stepG.exec,fr]) (h T K)
theorem JL.again{c:Code}(h:JL J Q b n L ds (.code c:: .inLoop c::k) cs s):JL J Q b n L ds (.inLoop c::k) cs s:=λT K=>Judge.DO V (λw=>by simp[G,stepG,stepG.exec,fr]) (h T K)
theorem JL.exit{i:Nat}{k':Li_}(K:exitTo i k=some k')(h:JL J Q b n L ds k' cs s):JL J Q b n L ds (.code (.exit i)::k) cs s:=λT O=>Judge.DO V (λw=>by simp[G,stepG,stepG.exec,fr,K]) (h T O)
theorem Ve(T:Av_)(todo:Li_)(x:Operand):(fr b T ds todo).eval x=BK T x:=by cases x<;>rfl
theorem Uu(T:Av_)(todo:Li_):(fr b T ds todo).eval=BK T:=funext (Ve T todo)
theorem JL.cond{c:Operand}{x y:Code}{t:Bool}(U:ev L c=some (.bool t))(h:JL J Q b n L ds (.code (if t then x else y)::k) cs s):JL J Q b n L ds (.code (.cond c x y)::k) cs s:=λT O=>
 Judge.DO V (λw=>by
  have K:=Ve (b:=b) (ds:=ds) T (.code (.cond c x y)::k) c
  rw[O.ev U] at K
  simp only[fr] at K
  simp[G,stepG,stepG.exec,fr,K]) (h T O)
theorem Zh{c:Operand}{x y:Code}(K:ev L c=some (.bool true))(h:JL J Q b n L ds (.code x::k) cs s):JL J Q b n L ds (.code (.cond c x y)::k) cs s:=JL.cond K h
theorem ZP{c:Operand}{x y:Code}(K:ev L c=some (.bool false))(h:JL J Q b n L ds (.code y::k) cs s):JL J Q b n L ds (.code (.cond c x y)::k) cs s:=JL.cond K h
theorem Rb{c:Operand}{x y:Code}{t:Bool}(K:ev L c=some (.bool t))(O:t=true->JL J Q b n L ds (.code x::k) cs s)(U:t=false->JL J Q b n L ds (.code y::k) cs s):JL J Q b n L ds (.code (.cond c x y)::k) cs s:=by
 cases t;exact JL.cond K (U V);exact JL.cond K (O V)
theorem GO{c:Operand}{x y:Code}{p:Prop} [Decidable p] (K:ev L c=some (.bool (decide p)))(O:p->JL J Q b n L ds (.code x::k) cs s)(U:¬p->JL J Q b n L ds (.code y::k) cs s):JL J Q b n L ds (.code (.cond c x y)::k) cs s:=
 Rb K (λh=>O (su h)) (λh=>U (of_decide_eq_false h))
theorem JL.loop{c:Code}(I:α->Prop)(O:α->Nat)(U:α->Env)(Y:α->St)(Z:α)(ac:I Z)(ag:L=U Z)(ai:s=Y Z)
  (round:∀a,I a->(∀K,I K->O K<O a->JL J Q b n (U K) ds (.inLoop c::k) cs (Y K))->JL J Q b n (U a) ds (.code c:: .inLoop c::k) cs (Y a)):
  JL J Q b n L ds (.code (.loop c)::k) cs s:=by
 refine IT ?_;subst ag ai;have key:∀m a,O a=m->I a->JL J Q b n (U a) ds (.code c:: .inLoop c::k) cs (Y a):=by
  intro m
  induction m using Nat.strongRecOn with
  | _ m al=>intro a hm am;exact round a am λK ap aq=>JL.again (al (O K) (hm▸aq) K rfl ap)
 exact key _ Z V ac
theorem JL.region{id:Nat}{ops:Ao_}(h:JL J Q b n L ds (.inRegion ops (List.range ops.size)::k) cs s):JL J Q b n L ds (.code (.region id ops false)::k) cs s:=λT K=>Judge.DO V (λw=>by simp[G,stepG,stepG.exec,fr]) (h T K)
theorem JL.done{ops:Ao_}(h:JL J Q b n L ds k cs s):JL J Q b n L ds (.inRegion ops []::k) cs s:=λT K=>Judge.DO V (λw=>by simp[G,stepG,stepG.exec,fr]) (h T K)
theorem VB{id:Nat}{ops:Ao_}(K:s.q=false)(hm:P.follows .mixedOrders=true)(h:∀t,JL J Q b n L ds (.inRegion ops (Region.linearise .any ops t)::k) cs s):JL J Q b n L ds (.code (.region id ops true)::k) cs s:=λT O=>by
 refine J.step ⟨rfl,λw f=>⟨_,s,{w with drawn:=w.drawn+1},#[],?_,h (w.tape w.drawn (.order b.fn id)) T O,⟨f.e,f.h,f.d⟩,⟨oU _,λ_ _ _=>rfl,λ_ h=>.inl h,λ_ _ h=>h,λ_ h=>.inl h,rfl,rfl,rfl⟩,by simp⟩,λe=>by subst e;cases K⟩
 simp[G,stepG,stepG.exec,fr,choose,Sem.run,Question.forced,Question.cut,Region.schedule,hm]
theorem G9(T:Av_)(ops:Ao_)(i:Nat)(rest:List Nat)(v:Value)(o:Oper)(K:ops[i]?=some o):
  (fr b T ds (.inRegion ops (i::rest)::k)).finish v=fr b (C6 T o.dst v) ds (.inRegion ops rest::k):=by
 cases hd:o.dst<;>simp[Frame.finish,fr,K,hd,C6]
theorem stepG_op{main:Bool}{ops:Ao_}{i:Nat}{rest:List Nat}{o:Oper}(K:ops[i]?=some o)(hw:Region.wanted o (yielded ops T)=true):
  stepG P main (G (fr b T ds (.inRegion ops (i::rest)::k)) cs) w=
   match b.roundOf,o.op with
   | some l,.defer c=>stepG.apply P true (fr b T ds (.inRegion ops (i::rest)::k)) cs none (do Instr.deferInRound l (← resolve (BK T) c o.type);pure .skip) w
   | _,_=>stepG.apply P true (fr b T ds (.inRegion ops (i::rest)::k)) cs none (execOp (BK T) o) w:=by
 have he:=Uu (b:=b) (ds:=ds) T (.inRegion ops (i::rest)::k);simp only[fr] at he;simp only[G,stepG,stepG.exec,fr,K,ra,Option.getD_some,hw,q1,stepG.oper,Frame.oper?,he]
 rfl
theorem GC(T:Av_)(todo:Li_):(fr b T ds todo).fn=b.fn:=rfl
theorem IX(T:Av_)(todo:Li_):(fr b T ds todo).todo=todo:=rfl
def upon(J:Judge P)(Q:Gs_)(b:Frame)(T:Av_)(ds:Ld_)(ops:Ao_)(i:Nat)(rest:List Nat)(k:Li_)(cs:Lf_)(dst:Option Tmp):Next->St->Prop
 | .value v,s=>J.ok Q (G (fr b (C6 T dst v) ds (.inRegion ops rest::k)) cs) s
 | .skip,s=>J.ok Q (G (fr b (C6 T dst undef) ds (.inRegion ops rest::k)) cs) s
 | .defer d,s=>J.ok Q (G (fr b (C6 T dst undef) (d::ds) (.inRegion ops rest::k)) cs) s
 | .enter f args,s=>J.ok Q (G (Frame.enter P f args .normal) (fr b T ds (.inRegion ops (i::rest)::k)::cs)) s
 | .round l f tmps assign body,s=>J.ok Q (G (Frame.round l f tmps assign body .normal) (fr b T ds (.inRegion ops (i::rest)::k)::cs)) s
 | _,_=>False
def MH(J:Judge P)(Q:Gs_)(b:Frame)(T:Av_)(ds:Ld_)(ops:Ao_)(i:Nat)(rest:List Nat)(k:Li_)(cs:Lf_):Halt->St->Prop
 | .panic v,s=>J.ok Q (G ((fr b T ds (.inRegion ops (i::rest)::k)).raise [{v,recovered:=false}]) cs) s
 | _,_=>False
theorem RL{s:St}{fn:FuncId}(h:∀e∈es,Ev s w w' e):∀e∈seen P fn es,Ev s w w' e:=λe he=>h e (mem_seen he)
theorem Judge.oper{ops:Ao_}{i:Nat}{rest:List Nat}{o:Oper}(ai:ops[i]?=some o)(hw:Region.wanted o (yielded ops T)=true)(aw:b.kind≠ .early)
  (hd:b.roundOf=none∨∀c,o.op≠ .defer c)
  (h:lp P (execOp (BK T) o) s (upon J Q b T ds ops i rest k cs o.dst) (MH J Q b T ds ops i rest k cs)):
  J.ok Q (G (fr b T ds (.inRegion ops (i::rest)::k)) cs) s:=by
 have U:((fr b T ds (.inRegion ops (i::rest)::k)).kind==CallKind.early)=false:=by simpa [fr] using aw
 have aq:∀w,stepG P J.main (G (fr b T ds (.inRegion ops (i::rest)::k)) cs) w=stepG.apply P true (fr b T ds (.inRegion ops (i::rest)::k)) cs none (execOp (BK T) o) w:=by
  intro w;rw[stepG_op ai hw];split;rename_i l c av e2;rcases hd with hd | hd;rw[hd] at av;cases av;exact absurd e2 (hd c);rfl
 refine J.step ⟨V,λw f=>?_,λe=>?_⟩
 rotate_left
 .subst e;simp only[aq];have al:=λv=>G9 (b:=b) (ds:=ds) (k:=k) T ops i rest v o ai;let⟨es,he,Y,h⟩:=UN _ h;have ag:seen P b.fn es=#[]:=Tm Y;rcases h with⟨am,K,O⟩ | ⟨x,K,O⟩
  .cases am with
   | value v=>exact⟨_,λw=>by simp[stepG.apply,O,U,GStep.after,G,al,GC,he,ag],K⟩
   | skip=>exact⟨_,λw=>by simp[stepG.apply,O,U,GStep.after,G,al,GC,he,ag],K⟩
   | enter g args=>exact⟨_,λw=>by simp[stepG.apply,O,U,GStep.after,G,GC,IX,he,ag],K⟩
   | round l g tm as ay=>exact⟨_,λw=>by simp[stepG.apply,O,U,GStep.after,G,GC,IX,he,ag],K⟩
   | defer d=>
    have ap:=G9 (b:=b) (ds:=d::ds) (k:=k) T ops i rest undef o ai;exact⟨_,λw=>by rw[← ap];simp[stepG.apply,O,U,GStep.after,G,GC,IX,he,ag];rfl,K⟩
   | _=>exact K.elim
  .cases x with
   | panic v=>exact⟨_,λw=>by simp[stepG.apply,O,U,GStep.after,G,GC,IX,he,ag],K⟩
   | _=>exact K.elim
 let⟨s',Z,ac,az,K⟩:=OJ _ h f;rw[aq];have Y:=RL (P:=P) (fn:=b.fn) az;have al:=λv=>G9 (b:=b) (ds:=ds) (k:=k) T ops i rest v o ai;cases O:(execOp (BK T) o).run P w with
 | ok am w'=>
  rw[O] at Z ac K Y;simp only[LU] at Z ac Y;cases am with
  | value v=>exact⟨_,s',w',seen P b.fn ((execOp (BK T) o).events P w #[])++ #[],by simp[stepG.apply,O,U,GStep.after,G,al,GC],K,Z,ac,by simpa using Y⟩
  | skip=>exact⟨_,s',w',seen P b.fn ((execOp (BK T) o).events P w #[])++ #[],by simp[stepG.apply,O,U,GStep.after,G,al,GC],K,Z,ac,by simpa using Y⟩
  | enter g args=>exact⟨_,s',w',seen P b.fn ((execOp (BK T) o).events P w #[])++ #[],by simp[stepG.apply,O,U,GStep.after,G,GC,IX],K,Z,ac,by simpa using Y⟩
  | round l g tm as ay=>exact⟨_,s',w',seen P b.fn ((execOp (BK T) o).events P w #[])++ #[],by simp[stepG.apply,O,U,GStep.after,G,GC,IX],K,Z,ac,by simpa using Y⟩
  | defer d=>
   have ap:=G9 (b:=b) (ds:=d::ds) (k:=k) T ops i rest undef o ai;exact⟨_,s',w',seen P b.fn ((execOp (BK T) o).events P w #[])++ #[],by
    rw[← ap];simp[stepG.apply,O,U,GStep.after,G,GC,IX];rfl,K,Z,ac,by simpa using Y⟩
  | _=>exact K.elim
 | halt x w'=>
  rw[O] at Z ac K Y;simp only[LU] at Z ac Y;cases x with
  | panic v=>exact⟨_,s',w',seen P b.fn ((execOp (BK T) o).events P w #[])++ #[],by simp[stepG.apply,O,U,GStep.after,G,GC,IX],K,Z,ac,by simpa using Y⟩
  | _=>exact K.elim
theorem Judge.unwanted{ops:Ao_}{i:Nat}{rest:List Nat}{o:Oper}(K:ops[i]?=some o)(hw:Region.wanted o (yielded ops T)=false)
  (h:J.ok Q (G (fr b (C6 T o.dst undef) ds (.inRegion ops rest::k)) cs) s):J.ok Q (G (fr b T ds (.inRegion ops (i::rest)::k)) cs) s:=by
 refine Judge.DO V (λw=>?_) h;have O:=G9 (b:=b) (ds:=ds) (k:=k) T ops i rest undef o K;rw[← O];simp[G,stepG,stepG.exec,fr,K,hw]
end
def Yl(P:Program)(o:Oper)(ρ:Operand->Value)(s:St)(v:Value):Prop:=lp P (execOp ρ o) s (λK s'=>K=.value v/\s'=s) (λ_ _=>False)
def Fa(L:Env)(ρ:Operand->Value):Prop:=∀x v,ev L x=some v->ρ x=v
def AY(L:Env)(ops:Ao_)(o:Oper):Option Bool:=
 match o.guard with
 | none=>some true
 | some (j,K)=>match(ops[j]?).bind (·.dst) with
  | some d=>match look L d with
   | some (.bool b)=>some (b==K)
   | some (.tuple _)=>some false
   | _=>none
  | none=>none
section
variable {b:Frame}{n:Nat}
theorem Has.Gz(h:Has n L T):Fa L (BK T):=λ_ _ e=>h.ev e
theorem getD_some{d:Nat}{c:Bool}(h:T.getD d undef=.bool c):T[d]?=some (.bool c):=by
 rw[gR] at h;cases K:T[d]? with
 | none=>rw[K] at h;simp[undef] at h
 | some v=>rw[K] at h;simp at h;rw[h]
theorem Cl{ops:Ao_}{o:Oper}{c:Bool}(h:Has n L T)(hw:AY L ops o=some c):Region.wanted o (yielded ops T)=c:=by
 unfold AY at hw;unfold Region.wanted;cases K:o.guard with
 | none=>rw[K] at hw;simpa using hw
 | some p=>
  obtain⟨j,Y⟩:=p;rw[K] at hw;simp only at hw ⊢;cases hd:(ops[j]?).bind (·.dst) with
  | none=>rw[hd] at hw;simp at hw
  | some d=>
   rw[hd] at hw;simp only at hw;cases O:look L d with
   | none=>rw[O] at hw;simp at hw
   | some v=>
    rw[O] at hw;cases v with
    | bool x=>
     simp only[q2] at hw;have:=getD_some (h.at_ d _ O);simp only[yielded,hd,Option.bind_some,this];simp[← hw]
    | tuple c=>
     simp only[q2] at hw;have K:=h.at_ d _ O;simp only[yielded,hd,Option.bind_some];cases U:T[d]? with
     | none=>simp[← hw]
     | some u=>
      have:u=.tuple c:=by rw[gR,U] at K;exact K
      subst this;simp[← hw]
    | _=>simp at hw
def Ek:Op->Bool | .defer _=>true | _=>false
def BX(b:Frame)(n:Nat)(o:Oper):Bool:=(b.kind != .early)&&(Bu n o.dst&& !Ek o.op)
theorem Yl.out{P:Program}{o:Oper}{ρ:Operand->Value}{s:St}{v:Value}(h:Yl P o ρ s v):Pal.lp P (execOp ρ o) s (λK s'=>K=.value v/\s'=s) (λ_ _=>False):=by unfold Yl at h;exact h
theorem Bl{ops:Ao_}{i:Nat}{rest:List Nat}{o:Oper}{v:Value}(U:ops[i]?=some o)(hw:AY L ops o=some true)(K:BX b n o=true)
  (h:∀ρ,Fa L ρ->Yl P o ρ s v) (Y:JL J Q b n (AB L o.dst v) ds (.inRegion ops rest::k) cs s):
  JL J Q b n L ds (.inRegion ops (i::rest)::k) cs s:=λT O=>by
 simp only[BX,f5] at K
 obtain⟨K,Z,hd⟩:=K
 refine Judge.oper U (Cl O hw) (by simpa using K) (.inr λc ac=>by rw[ac] at hd;simp[Ek] at hd) (Es _ (h _ O.Gz).out ?_ ?_)
 .rintro ai s' ⟨rfl,rfl⟩
  exact Y _ (O.put Z v)
 .intro _ _ ag;exact ag.elim
theorem I2{ops:Ao_}{i:Nat}{rest:List Nat}{o:Oper}(O:ops[i]?=some o)(hw:AY L ops o=some false)(U:Bu n o.dst=true)
  (Y:JL J Q b n (AB L o.dst undef) ds (.inRegion ops rest::k) cs s):
  JL J Q b n L ds (.inRegion ops (i::rest)::k) cs s:=λ_ K=>
 Judge.unwanted O (Cl K hw) (Y _ (K.put U undef))
theorem JL.op{ops:Ao_}{i:Nat}{rest:List Nat}{o:Oper}(ac:ops[i]?=some o)(hw:AY L ops o=some true)(K:BX b n o=true)
  (h:∀ρ,Fa L ρ->lp P (execOp ρ o) s (λU s'=>match U with
   | .value v=>JL J Q b n (AB L o.dst v) ds (.inRegion ops rest::k) cs s'
   | .skip=>JL J Q b n (AB L o.dst undef) ds (.inRegion ops rest::k) cs s'
   | _=>False) (λ_ _=>False)):
  JL J Q b n L ds (.inRegion ops (i::rest)::k) cs s:=λT O=>by
 simp only[BX,f5] at K
 obtain⟨K,Z,hd⟩:=K
 refine Judge.oper ac (Cl O hw) (by simpa using K) (.inr λc ag=>by rw[ag] at hd;simp[Ek] at hd) (Es _ (h _ O.Gz) ?_ ?_)
 .intro U s' Y
  cases U with
  | value v=>exact Y _ (O.put Z v)
  | skip=>exact Y _ (O.put Z undef)
  | _=>exact Y.elim
 .intro _ _ ai;exact ai.elim
end
variable {ρ:Operand->Value}{y z:Operand}{d:Option Tmp}{t u ty:TypeId}{p:String}{af:Ae_}{g:On_}{kd kd':IntKind}{m':Int}
variable{ats:Array TypeId}
section
variable {x:Operand}{v:Value}{m:Int}
theorem Yl.move(K:ρ x=v):Yl P ⟨d,.move x,ty,p,af,g⟩ ρ s v:=by simp[Yl,execOp,lp,pure,K]
theorem Yl.assign(K:ρ x=v):Yl P ⟨d,.assign x,ty,p,af,g⟩ ρ s v:=by simp[Yl,execOp,lp,pure,K]
theorem Nj(K:ρ z=.bool true)(O:ρ x=v):Yl P ⟨d,.pick z x y,ty,p,af,g⟩ ρ s v:=by simp[Yl,execOp,lp,pure,bind,Sem.bind,asBool,K,O]
theorem ZY(K:ρ z=.bool false)(O:ρ y=v):Yl P ⟨d,.pick z x y,ty,p,af,g⟩ ρ s v:=by simp[Yl,execOp,lp,pure,bind,Sem.bind,asBool,K,O]
theorem Yl.lss(K:ρ x=.int kd m)(O:ρ y=.int kd m'):Yl P ⟨d,.binOp .lss t x y u,ty,p,af,g⟩ ρ s (.bool (decide (m<m'))):=by
 simp[Yl,execOp,lp,pure,bind,Sem.bind,K,O,eqGuard,Go.binOp,Op.intCmp]
theorem Yl.leq(K:ρ x=.int kd m)(O:ρ y=.int kd m'):Yl P ⟨d,.binOp .leq t x y u,ty,p,af,g⟩ ρ s (.bool (decide (m<=m'))):=by
 simp[Yl,execOp,lp,pure,bind,Sem.bind,K,O,eqGuard,Go.binOp,Op.intCmp]
theorem Yl.gtr(K:ρ x=.int kd m)(O:ρ y=.int kd m'):Yl P ⟨d,.binOp .gtr t x y u,ty,p,af,g⟩ ρ s (.bool (decide (m'<m))):=by
 simp[Yl,execOp,lp,pure,bind,Sem.bind,K,O,eqGuard,Go.binOp,Op.intCmp]
theorem Yl.geq(K:ρ x=.int kd m)(O:ρ y=.int kd m'):Yl P ⟨d,.binOp .geq t x y u,ty,p,af,g⟩ ρ s (.bool (decide (m'<=m))):=by
 simp[Yl,execOp,lp,pure,bind,Sem.bind,K,O,eqGuard,Go.binOp,Op.intCmp]
theorem Yl.eql(K:ρ x=.int kd m)(O:ρ y=.int kd m'):Yl P ⟨d,.binOp .eql t x y u,ty,p,af,g⟩ ρ s (.bool (decide (m=m'))):=by
 simp[Yl,execOp,lp,pure,bind,Sem.bind,K,O,eqGuard,Go.binOp,Op.intCmp];rfl
theorem Yl.neq(K:ρ x=.int kd m)(O:ρ y=.int kd m'):Yl P ⟨d,.binOp .neq t x y u,ty,p,af,g⟩ ρ s (.bool (!decide (m=m'))):=by
 simp[Yl,execOp,lp,pure,bind,Sem.bind,K,O,eqGuard,Go.binOp,Op.intCmp];rfl
theorem Yl.add(K:ρ x=.int kd m)(O:ρ y=.int kd m'):Yl P ⟨d,.binOp .add t x y u,ty,p,af,g⟩ ρ s (.int kd (kd.wrap (m+m'))):=by
 simp[Yl,execOp,lp,pure,bind,Sem.bind,K,O,eqGuard,Go.binOp,Op.intArith]
theorem Yl.sub(K:ρ x=.int kd m)(O:ρ y=.int kd m'):Yl P ⟨d,.binOp .sub t x y u,ty,p,af,g⟩ ρ s (.int kd (kd.wrap (m - m'))):=by
 simp[Yl,execOp,lp,pure,bind,Sem.bind,K,O,eqGuard,Go.binOp,Op.intArith]
theorem Yl.mul(K:ρ x=.int kd m)(O:ρ y=.int kd m'):Yl P ⟨d,.binOp .mul t x y u,ty,p,af,g⟩ ρ s (.int kd (kd.wrap (m*m'))):=by
 simp[Yl,execOp,lp,pure,bind,Sem.bind,K,O,eqGuard,Go.binOp,Op.intArith]
theorem KL{a:Int}(h: -9223372036854775808<=a/\a<=9223372036854775807):IntKind.i64.wrap a=a:=by
 simp only[IntKind.wrap,IntKind.bits,IntKind.signed];simp;split<;>omega
theorem eW(K:ρ x=.int .i64 m)(O:ρ y=.int .i64 m')(hb: -9223372036854775808<=m+m'/\m+m'<=9223372036854775807):Yl P ⟨d,.binOp .add t x y u,ty,p,af,g⟩ ρ s (.int .i64 (m+m')):=by
 have:=Yl.add (P:=P) (s:=s) (d:=d) (t:=t) (u:=u) (ty:=ty) (p:=p) (af:=af) (g:=g) K O;rwa[KL hb] at this
theorem cZ(K:ρ x=.int .i64 m)(O:ρ y=.int .i64 m')(hb: -9223372036854775808<=m - m'/\m - m'<=9223372036854775807):Yl P ⟨d,.binOp .sub t x y u,ty,p,af,g⟩ ρ s (.int .i64 (m - m')):=by
 have:=Yl.sub (P:=P) (s:=s) (d:=d) (t:=t) (u:=u) (ty:=ty) (p:=p) (af:=af) (g:=g) K O;rwa[KL hb] at this
theorem cJ(K:ρ x=.int .i64 m)(O:ρ y=.int .i64 m')(hb: -9223372036854775808<=m*m'/\m*m'<=9223372036854775807):Yl P ⟨d,.binOp .mul t x y u,ty,p,af,g⟩ ρ s (.int .i64 (m*m')):=by
 have:=Yl.mul (P:=P) (s:=s) (d:=d) (t:=t) (u:=u) (ty:=ty) (p:=p) (af:=af) (g:=g) K O;rwa[KL hb] at this
theorem Yl.rem(K:ρ x=.int kd m)(O:ρ y=.int kd m')(U:m'≠0):Yl P ⟨d,.binOp .rem t x y u,ty,p,af,g⟩ ρ s (.int kd (m.tmod m')):=by
 simp[Yl,execOp,lp,pure,bind,Sem.bind,K,O,eqGuard,Go.binOp,Op.intDiv,U]
theorem Yl.quo(K:ρ x=.int kd m)(O:ρ y=.int kd m')(U:m'≠0):Yl P ⟨d,.binOp .quo t x y u,ty,p,af,g⟩ ρ s (.int kd (kd.wrap (m.tdiv m'))):=by
 simp[Yl,execOp,lp,pure,bind,Sem.bind,K,O,eqGuard,Go.binOp,Op.intDiv,U]
theorem Yl.and(K:ρ x=.int kd m)(O:ρ y=.int kd m'):Yl P ⟨d,.binOp .and t x y u,ty,p,af,g⟩ ρ s (.int kd (kd.wrap (BitVec.ofInt kd.bits m&&& BitVec.ofInt kd.bits m').toNat)):=by
 simp[Yl,execOp,lp,pure,bind,Sem.bind,K,O,eqGuard,Go.binOp,Op.intBits]
theorem Yl.or(K:ρ x=.int kd m)(O:ρ y=.int kd m'):Yl P ⟨d,.binOp .or t x y u,ty,p,af,g⟩ ρ s (.int kd (kd.wrap (BitVec.ofInt kd.bits m|||BitVec.ofInt kd.bits m').toNat)):=by
 simp[Yl,execOp,lp,pure,bind,Sem.bind,K,O,eqGuard,Go.binOp,Op.intBits]
theorem Yl.xor(K:ρ x=.int kd m)(O:ρ y=.int kd m'):Yl P ⟨d,.binOp .xor t x y u,ty,p,af,g⟩ ρ s (.int kd (kd.wrap (BitVec.ofInt kd.bits m ^^^ BitVec.ofInt kd.bits m').toNat)):=by
 simp[Yl,execOp,lp,pure,bind,Sem.bind,K,O,eqGuard,Go.binOp,Op.intBits]
theorem Yl.shl(K:ρ x=.int kd m)(O:ρ y=.int kd' m')(U:0<=m'):Yl P ⟨d,.binOp .shl t x y u,ty,p,af,g⟩ ρ s (.int kd (kd.wrap (m*2^(min m'.toNat kd.bits)))):=by
 have:¬m'<0:=by omega
 simp[Yl,execOp,lp,pure,bind,Sem.bind,K,O,eqGuard,Go.binOp,Op.shift,this]
theorem Yl.shr(K:ρ x=.int kd m)(O:ρ y=.int kd' m')(U:0<=m'):Yl P ⟨d,.binOp .shr t x y u,ty,p,af,g⟩ ρ s (.int kd (m.fdiv (2^(min m'.toNat kd.bits)))):=by
 have:¬m'<0:=by omega
 simp[Yl,execOp,lp,pure,bind,Sem.bind,K,O,eqGuard,Go.binOp,Op.shift,this]
theorem Yl.not{c:Bool}(K:ρ x=.bool c):Yl P ⟨d,.unOp .not t x,ty,p,af,g⟩ ρ s (.bool (!c)):=by
 simp[Yl,execOp,lp,pure,bind,Sem.bind,K,Op.unary]
theorem cM(K:ρ x=.int .i64 m)(hb: -9223372036854775808<= -m/\ -m<=9223372036854775807):Yl P ⟨d,.unOp .neg t x,ty,p,af,g⟩ ρ s (.int .i64 (-m)):=by
 simp[Yl,execOp,lp,pure,bind,Sem.bind,K,Op.unary,Op.intArith,KL hb]
theorem FP(K:P.underlying t=some (.int kd'))(hu:P.underlying u=some (.int kd))(O:ρ x=.int kd' m):Yl P ⟨d,.convert t u x,ty,p,af,g⟩ ρ s (.int kd (kd.wrap m)):=by
 simp[Yl,execOp,lp,pure,bind,Sem.bind,O,Go.convert,underlying,program,K,hu,Conv.intToInt]
theorem Yl.extract{vs:Av_}{i:Nat}(K:ρ x=.tuple vs)(hi:vs[i]?=some v):Yl P ⟨d,.extract x i,ty,p,af,g⟩ ρ s v:=by
 simp[Yl,execOp,lp,pure,bind,Sem.bind,K,Instr.extract,hi]
theorem Yl.nilCheck{a:Addr}(K:ρ x=.pointer (some a)):Yl P ⟨d,.nilCheck x,ty,p,af,g⟩ ρ s (.pointer (some a)):=by
 simp[Yl,execOp,lp,pure,K]
theorem Yl.len{a:Option Addr}{e:TypeId}{c:Nat}(K:ats[0]?=some t)(O:P.underlying t=some (.slice e))(U:ρ x=.slice a l c):
  Yl P ⟨d,.call ⟨.builtin .len,#[x],ats⟩,ty,p,af,g⟩ ρ s (.int .i64 l):=by
 simp[Yl,execOp,lp,pure,bind,Sem.bind,U,resolve,invoke,builtin,Builtin.len_,K,underlying,program,O,goInt]
theorem J6{dsc:TypeDesc}(K:P.underlying t=some dsc)(O:∀ms,dsc≠ .interface ms)(U:ρ x=v):Yl P ⟨d,.makeInterface t x,ty,p,af,g⟩ ρ s (.iface t v):=by
 have:lp P (Instr.makeInterface t v) s (λr s'=>r=.iface t v/\s'=s) (λ_ _=>False):=by
  unfold Instr.makeInterface;simp only[lp,bind,Sem.bind,underlying,program,K];cases dsc<;>first | exact⟨rfl,rfl⟩ | exact absurd rfl (O _)
 simp only[Yl,execOp,U];exact AA _ _ (Es _ this (λr s' ⟨Y,Z⟩=>⟨by rw[Y],Z⟩) (λ_ _ h=>h))
theorem Ml{fn:Fn}{a c:Array Operand}{va K:Av_}(O:a.map ρ=va)(U:c.map ρ=K):Yl P ⟨d,.makeFunc fn a c,ty,p,af,g⟩ ρ s (.func fn va K):=by
 simp[Yl,execOp,lp,pure,bind,Sem.bind,Instr.makeFunc,O,U]
end
attribute [irreducible] Yl
def Le(E E':LH):Prop:=∀b o,E b=some o->E' b=some o
theorem Le.refl(E:LH):Le E E:=λ_ _ h=>h
theorem Le.trans{E E' E0:LH}(h:Le E E')(k:Le E' E0):Le E E0:=λb o x=>k b o (h b o x)
theorem AR{E:LH}:Le E E:=Le.refl E
theorem Le.Ad{a b c:LH}(h:Le a b)(k:Le b c):Le a c:=h.trans k
def Bg:List (Nat×Obj)->LH->LH
 | [],H=>H
 | (b,o)::B,H=>λx=>if x=b then some o else Bg B H x
def mk(E H:LH)(B:List (Nat×Obj)):St:=⟨E,Bg B H,false⟩
def Nd(E H:LH):List (Nat×Obj)->Prop
 | []=>True
 | (b,_)::B=>E b=none/\H b=none/\(∀p∈B,p.1≠b)/\Nd E H B
theorem TC{H:LH}{b:Nat}:∀{B:List (Nat×Obj)},H b=none->(∀p∈B,p.1≠b)->Bg B H b=none
 | [],h,_=>h
 | (c,o)::B,h,hb=>by
  have K:b≠c:=λe=>hb (c,o) (by simp) e.symm
  simp only[Bg,d9 K]
  exact TC h λp O=>hb p (f8 _ O)
theorem Ij{H:LH}{b:Nat}:∀{B:List (Nat×Obj)},Bg B H b=none->H b=none/\∀p∈B,p.1≠b
 | [],h=>⟨h,by simp⟩
 | (c,o)::B,h=>by
  simp only[Bg] at h
  split at h;cases h;rename_i O;let⟨U,Y⟩:=Ij h;refine⟨U,λp K=>?_⟩;rcases gv.1 K with rfl | K;exact λe=>O e.symm;exact Y p K
theorem Tl{H:LH}{x:Nat}{o:Obj}{r:Nat}:∀{B:List (Nat×Obj)},(∀p∈B,p.1≠r)->Bg (B++ [(r,o)]) H x=if x=r then some o else Bg B H x
 | [],_=>rfl
 | (c,u)::B,h=>by
  simp only[qX,Bg]
  by_cases e:x=c
  .subst e
   have:x≠r:=λe=>h (x,u) (by simp) e;simp[this]
  .simp only [d9 e];exact Tl λp K=>h p (f8 _ K)
theorem Nd.append{E H:LH}{r:Nat}{o:Obj}(O:E r=none)(U:H r=none):∀{B:List (Nat×Obj)},(∀p∈B,p.1≠r)->Nd E H B->Nd E H (B++ [(r,o)])
 | [],_,_=>⟨O,U,by simp,trivial⟩
 | (c,u)::B,h,Y=>by
  obtain⟨Z,ac,ag,ai⟩:=Y
  refine⟨Z,ac,λp K=>?_,Nd.append O U (λp K=>h p (f8 _ K)) ai⟩
  rcases gM.1 K with K | K;exact ag p K;simp at K;subst K;exact λe=>h (c,u) (by simp) e.symm
theorem Kd{E H:LH}{b:Nat}{o:Obj}:∀{B:List (Nat×Obj)}{i:Nat},Nd E H B->B[i]?=some (b,o)->Bg B H b=some o
 | [],_,_,h=>by simp at h
 | (c,u)::B,0,_,h=>by simp at h;obtain⟨rfl,rfl⟩:=h;simp[Bg]
 | (c,u)::B,i+1,K,h=>by
  simp at h
  have O:b≠c:=K.2.2.1 (b,o) (qi h)
  simp only[Bg,d9 O]
  exact Kd K.2.2.2 h
theorem T8{E H:LH}{b:Nat}{o o':Obj}:∀{B:List (Nat×Obj)}{i:Nat},Nd E H B->B[i]?=some (b,o)->Bg (B.set i (b,o')) H=λx=>if x=b then some o' else Bg B H x
 | [],_,_,h=>by simp at h
 | (c,u)::B,0,_,h=>by
  simp at h;obtain⟨rfl,rfl⟩:=h
  funext x
  simp only[sd,Bg]
  split<;>rfl
 | (c,u)::B,i+1,K,h=>by
  simp at h
  have O:b≠c:=K.2.2.1 (b,o) (qi h)
  funext x
  simp only[ta,Bg]
  rw[T8 K.2.2.2 h]
  by_cases e:x=c;subst e;simp[qH O];simp[e]
variable{o':Obj}
theorem Nd.set{E H:LH}{b:Nat}:∀{B:List (Nat×Obj)}{i:Nat},Nd E H B->B[i]?=some (b,o)->Nd E H (B.set i (b,o'))
 | [],_,_,h=>by simp at h
 | (c,u)::B,0,K,h=>by simp at h;obtain⟨rfl,rfl⟩:=h;exact K
 | (c,u)::B,i+1,K,h=>by
  simp at h
  refine⟨K.1,K.2.1,λp O=>?_,K.2.2.2.set h⟩
  have hm:=rX O
  rcases hm with hm | rfl;exact K.2.2.1 p hm;exact K.2.2.1 (b,o) (qi h)
theorem Nd.VJ{E H:LH}{b:Nat}{o:Obj}:∀{B:List (Nat×Obj)}{i:Nat},Nd E H B->B[i]?=some (b,o)->E b=none
 | [],_,_,h=>by simp at h
 | (c,u)::B,0,K,h=>by simp at h;obtain⟨rfl,rfl⟩:=h;exact K.1
 | (c,u)::B,i+1,K,h=>by simp at h;exact Nd.VJ K.2.2.2 h
theorem QW{E H:LH}{B:List (Nat×Obj)}{i b:Nat}(K:Nd E H B)(h:B[i]?=some (b,o)):(mk E H B).get b=some o:=by
 unfold St.get mk;simp only[K.VJ h,Kd K h]
theorem X4{E H:LH}{B:List (Nat×Obj)}{b:Nat}(h:E b=some o):(mk E H B).get b=some o:=by
 unfold St.get mk;simp only[h]
variable{off:Nat}
theorem Uk{E H:LH}{B:List (Nat×Obj)}{i b:Nat}{c:Av_}{e:TypeId}{f:Nat×Nat}{v:Value}(K:Nd E H B)(h:B[i]?=some (b,.cells c e f))(O:c[off]?=some v):(mk E H B).cell? ⟨b,off,none⟩=some v:=by
 unfold St.cell?;rw[QW K h];exact O
theorem YV{E H:LH}{B:List (Nat×Obj)}{b:Nat}{c:Av_}{e:TypeId}{f:Nat×Nat}{v:Value}(h:E b=some (.cells c e f))(K:c[off]?=some v):(mk E H B).cell? ⟨b,off,none⟩=some v:=by
 unfold St.cell?;rw[X4 h];exact K
variable {E H:LH}{B B':List (Nat×Obj)}
variable{bk r:Nat}{args:Av_}{X:Halt->St->Prop}{todo:Li_}{fn:Func}{vs:Lv_}
section
variable {b:Frame}{n:Nat}
theorem KM(O:(mk E H B).E r=none)(U:(mk E H B).H r=none)(o:Obj)(Y:Nd E H B):Nd E H (B++ [(r,o)])/\(mk E H B).upd r o=mk E H (B++ [(r,o)]):=by
 let⟨Z,K⟩:=Ij U;refine⟨Nd.append O Z K Y,?_⟩;unfold St.upd mk;congr 1;funext x;exact(Tl K).symm
theorem jf{i:Nat}(K:Nd E H B)(h:B[i]?=some (bk,o)):(mk E H B).upd bk o'=mk E H (B.set i (bk,o')):=by
 unfold St.upd mk;congr 1;exact(T8 K h).symm
theorem JL.drop(B':List (Nat×Obj))(h:∀p∈B',∃i:Nat,B[i]?=some p)(U:Nd E H B)(k':JL J Q b n L ds k cs (mk E H B')):JL J Q b n L ds k cs (mk E H B):=
 JL.ghost (s':=mk E H B') ⟨λ_ _ h=>h,λx o O=>by
  show Bg B H x=some o
  have key:∀{B':List (Nat×Obj)},(∀p∈B',∃i:Nat,B[i]?=some p)->Bg B' H x=some o->Bg B H x=some o:=by
   intro B'
   induction B' with
   | nil=>
    intro _ O
    have ai:∀p∈B,p.1≠x:=by
     intro p K e
     have:∀{B:List (Nat×Obj)},Nd E H B->p∈B->H p.1=none:=by
      intro B U K
      induction B with
      | nil=>simp at K
      | cons q B Y=>
       rcases gv.1 K with rfl | K;exact U.2.1;exact Y U.2.2.2 K
     have ac:=this U K
     rw[e] at ac
     have ag:H x=some o:=O
     rw[ac] at ag;cases ag
    have:∀{B:List (Nat×Obj)},(∀p∈B,p.1≠x)->Bg B H x=H x:=by
     intro B Z
     induction B with
     | nil=>rfl
     | cons q B Y=>
      have al:x≠q.1:=λe=>Z q (by simp) e.symm
      obtain⟨c,u⟩:=q
      simp only[Bg,d9 al]
      exact Y λp K=>Z p (f8 _ K)
    rw[this ai];exact O
   | cons q B' Y=>
    intro Z O
    obtain⟨c,u⟩:=q
    simp only[Bg] at O
    split at O
    .rename_i e;subst e;cases O
     obtain⟨i,hi⟩:=Z (x,o) (by simp)
     exact Kd U hi
    .exact Y (λp K=>Z p (f8 _ K)) O
  exact key h O,λ_ _ h=>.inl h,V⟩ k'
theorem M9{x:Nat}:∀{B:List (Nat×Obj)}{i bk:Nat}{o u:Obj},Nd E H B->B[i]?=some (bk,o)->Bg (B.eraseIdx i) H x=some u->x≠bk/\Bg B H x=some u
 | [],_,_,_,_,_,h,_=>by simp at h
 | (c,v)::B,0,bk,o,u,O,h,K=>by
  simp at h;obtain⟨rfl,rfl⟩:=h
  simp only[List.eraseIdx_cons_zero] at K
  have U:x≠c:=by
   intro e;subst e;rw[TC O.2.1 O.2.2.1] at K;cases K
  exact⟨U,by simp only[Bg,d9 U];exact K⟩
 | (c,v)::B,i+1,bk,o,u,O,h,K=>by
  simp at h;simp only[List.eraseIdx_cons_succ,Bg] at K ⊢;split at K;rename_i e;subst e;rw[d7 rfl];exact⟨λe=>O.2.2.1 (bk,o) (qi h) e.symm,K⟩;rename_i e;rw[d9 e];exact M9 O.2.2.2 h K
theorem JL.freeze(i:Nat)(K:Nd E H B)(h:B[i]?=some (bk,o))
  (k':∀E',Le E E'->E' bk=some o->Nd E' H (B.eraseIdx i)->JL J Q b n L ds k cs (mk E' H (B.eraseIdx i))):JL J Q b n L ds k cs (mk E H B):=by
 have am:=qi h;have ap:E bk=none/\H bk=none:=by
  have:∀{B:List (Nat×Obj)},Nd E H B->(bk,o)∈B->E bk=none/\H bk=none:=by
   intro B K O
   induction B with
   | nil=>simp at O
   | cons q B Y=>
    rcases gv.1 O with rfl | O;exact⟨K.1,K.2.1⟩;exact Y K.2.2.2 O
  exact this K am
 let E':LH:=λx=>if x=bk then some o else E x
 have ag:E' bk=some o:=by simp[E']
 have hle:Le E E':=λx u U=>by
  have:x≠bk:=λe=>by subst e;rw[ap.1] at U;cases U
  simp[E',this,U]
 have aq:Nd E' H (B.eraseIdx i):=by
  have:∀{B:List (Nat×Obj)}{i:Nat},Nd E H B->B[i]?=some (bk,o)->Nd E' H (B.eraseIdx i)/\∀p∈B.eraseIdx i,p.1≠bk:=by
   intro B
   induction B with
   | nil=>intro i _ h;simp at h
   | cons q B Y=>
    obtain⟨c,v⟩:=q;intro i K h;have up:∀{B:List (Nat×Obj)},Nd E H B->(∀p∈B,p.1≠bk)->Nd E' H B:=by
     intro B K ai
     induction B with
     | nil=>trivial
     | cons q B av=>exact⟨by simpa [E',ai q (by simp)] using K.1,K.2.1,K.2.2.1,av K.2.2.2 λp O=>ai p (f8 _ O)⟩
    cases i with
    | zero=>
     simp at h;obtain⟨rfl,rfl⟩:=h;exact⟨up K.2.2.2 K.2.2.1,K.2.2.1⟩
    | succ i=>
     simp at h;let⟨Z,ac⟩:=Y K.2.2.2 h;have al:c≠bk:=λe=>K.2.2.1 (bk,o) (qi h) e.symm;refine⟨⟨by simpa [E',al] using K.1,K.2.1,λp O=>K.2.2.1 p (rC O),Z⟩,λp O=>?_⟩;rcases gv.1 O with rfl | O;exact al;exact ac p O
  exact(this K h).1
 refine JL.ghost (s':=mk E' H (B.eraseIdx i)) ⟨λx u U=>hle x u U,λx u U=>(M9 K h U).2,λx u U=>?_,V⟩ (k' E' hle ag aq);by_cases e:x=bk
 .subst e;right;have:u=o:=by have:E' x=some u:=U;rw[ag] at this;exact(f6 this).symm
  subst this;refine⟨Kd K h,?_⟩;cases aw:(mk E' H (B.eraseIdx i)).H x with
  | none=>rfl
  | some y=>exact absurd rfl (M9 K h aw).1
 .left;have Z:E' x=some u:=U;have ac:E' x=E x:=by simp[E',e]
  show E x=some u;rw[← ac];exact Z
def Fn(P:Program)(f:FuncId)(args:Av_)(s:St)(R:Value->St->Prop):Prop:=
 ∀(J:Judge P) (Q:Gs_) (c:Frame) (cs:Lf_),(∀v s',R v s'->J.ok Q (G (c.finish v) cs) s')->J.ok Q (G (Frame.enter P f args .normal) (c::cs)) s
def Ei(P:Program)(f:FuncId):Bool:=match P.funcs[f]? with | some fn=> !(fn.name== "runtime.NumGoroutine")&&fn.body.isSome | none=>false
def evs(L:Env):List Operand->Option (Lv_)
 | []=>some []
 | x::xs=>match ev L x,evs L xs with | some v,some vs=>some (v::vs) | _,_=>none
theorem Gv{L:Env}{ρ:Operand->Value}(h:Fa L ρ):∀{xs:List Operand}{vs:Lv_},evs L xs=some vs->xs.map ρ=vs
 | [],vs,e=>by simp[evs] at e;subst e;rfl
 | x::xs,vs,e=>by
  simp only[evs] at e
  split at e
  .rename_i v ws K O
   cases e;rw[q7,h x v K,Gv h O]
  .cases e
theorem J5{f:FuncId}{s:St}{Q:Next->St->Prop}(K:Ei P f=true)(h:Q (.enter f args) s):lp P (callFunc f args) s Q X:=by
 unfold Ei at K;unfold callFunc;simp only[bind,Sem.bind,program,lp];cases O:P.funcs[f]? with
 | none=>rw[O] at K;cases K
 | some fn=>
  rw[O] at K;simp only[f5,sR] at K;have hb:fn.body.isNone=false:=by cases U:fn.body<;>simp_all
  simp only[K.1,hb,qe,qY];exact h
def BL(P:Program)(f:FuncId)(L:Env)(n:Nat)(s:St)(v:Value):Prop:=∃fn,P.funcs[f]?=some fn/\∀T,Has n L T->lp P (results fn T) s (λu s'=>u=v/\s'=s) (λ_ _=>False)
theorem Judge.leave{c:Frame}{s:St}{v:Value}(Y:b.kind=.normal)(Z:P.funcs[b.fn]?=some fn)(U:lp P (results fn T) s (λu s'=>u=v/\s'=s) (λ_ _=>False))
  (h:J.ok Q (G (c.finish v) cs) s):J.ok Q (G (EP b T [] todo) (c::cs)) s:=by
 refine J.step ⟨V,λw f=>?_,λe=>?_⟩
 rotate_left
 .subst e;let⟨es,he,al,U⟩:=UN _ U;have am:seen P b.fn es=#[]:=Tm al;rcases U with⟨u,⟨rfl,_⟩,O⟩ | ⟨x,K,_⟩;exact⟨_,λw=>by simp[G,stepG,unwind,EP,Z,O,doReturn,Y,GStep.after,he,am],h⟩;exact K.elim
 let⟨s',ac,ag,ai,K⟩:=OJ _ U f;cases O:(results fn T).run P w with
 | halt x w'=>rw[O] at K;exact K.elim
 | ok u w'=>
  rw[O] at ac ag ai K;obtain⟨rfl,rfl⟩:=K;exact⟨_,s',w',seen P b.fn ((results fn T).events P w #[])++ #[],by simp[G,stepG,unwind,EP,Z,O,doReturn,Y,GStep.after],h,ac,ag,by simp only[tb];exact RL ai⟩
theorem JL.ret{s:St}{c:Frame}{v:Value}(O:b.kind=.normal)(U:b.roundOf=none)(K:BL P b.fn L n s v)(h:J.ok Q (G (c.finish v) cs) s):JL J Q b n L [] (.code .ret::k) (c::cs) s:=λT Y=>by
 obtain⟨fn,Z,K⟩:=K
 refine Judge.DO (g':=G (EP b T [] (.code .ret::k)) (c::cs)) rfl (λw=>by simp[G,stepG,stepG.exec,fr,EP,U]) ?_
 exact Judge.leave O Z (K T Y) h
theorem JL.fin{s:St}{c:Frame}{v:Value}(O:b.kind=.normal)(U:b.roundOf=none)(K:BL P b.fn L n s v)(h:J.ok Q (G (c.finish v) cs) s):JL J Q b n L [] [] (c::cs) s:=λT Y=>by
 obtain⟨fn,Z,K⟩:=K
 refine Judge.DO (g':=G (EP b T [] []) (c::cs)) rfl (λw=>by simp[G,stepG,stepG.exec,fr,EP,U]) ?_
 exact Judge.leave O Z (K T Y) h
theorem BL.one{f:FuncId}{s:St}{t:Tmp}{v:Value}(K:P.funcs[f]?=some fn)(O:fn.results=#[.tmp t])(h:look L t=some v):BL P f L n s v:=
 ⟨fn,K,λT U=>by
  have e:results fn T=Sem.pure v:=by
   have:=U.at_ t v h
   simp only[results,O,rY]
   show Sem.pure (T.getD t undef)=_
   rw[this]
  rw[e];exact⟨rfl,rfl⟩⟩
theorem BL.none{f:FuncId}{s:St}(K:P.funcs[f]?=some fn)(O:fn.results=#[]):BL P f L n s (.tuple #[]):=
 ⟨fn,K,λT U=>by
  have e:results fn T=Sem.pure (.tuple #[]):=by
   simp only[results,O,rY]
   rfl
  rw[e];exact⟨rfl,rfl⟩⟩
def GR:Nat->Lv_->Env
 | _,[]=>[]
 | i,v::vs=>(i,v)::GR (i+1) vs
theorem KI{i t:Nat}{v:Value}(h:look (GR i vs) t=some v):i<=t/\vs[t - i]?=some v:=by
 induction vs generalizing i with
 | nil=>simp[GR,look] at h
 | cons u vs K=>
  simp only[GR,look] at h;split at h;rename_i e;subst e;cases h;simp
  .rename_i U;let⟨Y,O⟩:=K h;refine⟨by omega,?_⟩;have:t - i=(t - (i+1))+1:=by omega
   rw[this];simpa using O
end
def Bz(P:Program)(t:TypeId):Option Nat:=(P.info? t).map (·.size)
def DY(P:Program)(t:TypeId):Option Bool:=match P.underlying t with | some (.struct _)=>some true | some (.array _ _)=>some true | some _=>some false | none=>none
def zeroOf(P:Program)(t:TypeId):Option Value:=(P.info? t).bind (·.zero)
variable{sz:Nat}
theorem FA{Q:Nat->St->Prop}(h:Bz P t=some sz)(k:Q sz s):lp P (Go.sizeOf t) s Q X:=by
 unfold Bz at h;simp only[Go.sizeOf,typeInfo,bind,Sem.bind,program,lp];cases hi:P.info? t with
 | none=>rw[hi] at h;cases h
 | some i=>rw[hi] at h;simp at h;subst h;exact k
theorem Ik{z:Value}{Q:Value->St->Prop}(h:zeroOf P t=some z)(k:Q z s):lp P (zeroValue t) s Q X:=by
 unfold zeroOf at h;simp only[zeroValue,typeInfo,bind,Sem.bind,program,lp];cases hi:P.info? t with
 | none=>rw[hi] at h;cases h
 | some i=>
  rw[hi] at h;simp at h;show lp P (match i.zero with | some v=>pure v | none=>unsupported _) s Q X
  rw[h];exact k
theorem OI{c:Bool}{Q:Bool->St->Prop}(h:DY P t=some c)(k:Q c s):lp P (isAgg t) s Q X:=by
 unfold DY at h;simp only[isAgg,underlying,bind,Sem.bind,program,lp];cases hu:P.underlying t with
 | none=>rw[hu] at h;cases h
 | some u=>
  rw[hu] at h;cases u<;>simp at h<;>subst h<;>exact k
theorem CE{u:TypeDesc}{Q:TypeDesc->St->Prop}(h:P.underlying t=some u)(k:Q u s):lp P (underlying t) s Q X:=by
 simp only[underlying,bind,Sem.bind,program,lp,h];exact k
theorem Vb{a:Addr}{v:Value}{Q:Value->St->Prop}(h:s.cell? a=some v)(k:Q v s):lp P (load a) s Q X:=⟨V,v,h,k⟩
theorem S8{a:Addr}{Q:Av_->St->Prop}{X:Halt->St->Prop}:∀(vs:Lv_) (i:Nat) (acc:Av_),(∀j v,vs[j]?=some v->s.cell? (a.add (i+j))=some v)->Q (acc++vs.toArray) s->lp P (loadCellsFrom a i vs.length acc) s Q X
 | [],i,acc,_,k=>by simpa [loadCellsFrom,lp,pure] using k
 | v::vs,i,acc,h,k=>by
  simp only[qz,loadCellsFrom]
  refine AA _ _ (Vb (h 0 v V) ?_)
  refine S8 vs (i+1) (acc.push v) (λj u K=>?_) (by simpa using k)
  have:=h (j+1) u (by simpa using K)
  rwa[show i+1+j=i+(j+1) from by omega]
theorem Tn{a:Addr}{m:Nat}{Q:Av_->St->Prop}(hm:m=vs.length)(h:∀j v,vs[j]?=some v->s.cell? (a.add j)=some v)(k:Q vs.toArray s):lp P (loadCells a m) s Q X:=by
 subst hm;exact S8 vs 0 #[] (λj v K=>by simpa using h j v K) (by simpa using k)
theorem Tx{a:Addr}{v:Value}{Q:Value->St->Prop}(K:DY P t=some false)(h:s.cell? a=some v)(k:Q v s):lp P (loadVar t a) s Q X:=by
 unfold loadVar;refine AA _ _ (OI K ?_);exact Vb h k
theorem Tt{a:Addr}{Q:Value->St->Prop}(K:DY P t=some true)(O:Bz P t=some vs.length)(h:∀j v,vs[j]?=some v->s.cell? (a.add j)=some v)(k:Q (.agg vs.toArray) s):lp P (loadVar t a) s Q X:=by
 unfold loadVar;refine AA _ _ (OI K ?_);show lp P (do let r ← loadCells a (← Go.sizeOf t);pure (Value.agg r)) s Q X
 refine AA (x:=Go.sizeOf t) _ (FA O ?_);refine AA _ _ (Tn V h ?_);exact k
variable {e:TypeId}
section
variable {x:Operand}{v:Value}{m:Int}
theorem F1{o:Oper}{sm:Sem Value}(K:execOp ρ o=(do pure (Next.value (← sm))))(h:lp P sm s (λr s'=>r=v/\s'=s) (λ_ _=>False)):Yl P o ρ s v:=by
 unfold Yl;rw[K];exact AA _ _ (Es _ h (λr s' ⟨O,U⟩=>⟨by rw[O],U⟩) (λ_ _ h=>h))
theorem Yl.load{a:Addr}(K:DY P t=some false)(O:ρ x=.pointer (some a))(h:s.cell? a=some v):Yl P ⟨d,.load t x,ty,p,af,g⟩ ρ s v:=
 F1 (sm:=Instr.loadAt t (ρ x)) V (by rw[O];exact Tx K h ⟨rfl,rfl⟩)
theorem IV{a:Addr}(K:DY P t=some true)(O:Bz P t=some vs.length)(U:ρ x=.pointer (some a))(h:∀j v,vs[j]?=some v->s.cell? (a.add j)=some v):Yl P ⟨d,.load t x,ty,p,af,g⟩ ρ s (.agg vs.toArray):=
 F1 (sm:=Instr.loadAt t (ρ x)) V (by rw[U];exact Tt K O h ⟨rfl,rfl⟩)
theorem Yl.fieldAddr{a:Addr}{O:Array Field}{i:Nat}{K:Field}(U:P.underlying t=some (.struct O))(hi:O[i]?=some K)(Y:Bz P K.type=some (sz+1))(Z:ρ x=.pointer (some a)):
  Yl P ⟨d,.fieldAddr t x i,ty,p,af,g⟩ ρ s (.pointer (some (a.add K.offset))):=
 F1 (sm:=Instr.fieldAt t (ρ x) i) V (by
  rw[Z];unfold Instr.fieldAt
  refine AA _ _ (CE U ?_)
  simp only[hi,Instr.sureAddr,bind,Sem.bind,pure]
  refine AA (x:=fieldPlace a K) _ ?_
  unfold fieldPlace
  refine AA _ _ (FA Y ?_)
  simp only[Nat.add_eq_zero_iff,Nat.succ_ne_self,and_false,qY,lp,pure]
  exact⟨trivial,trivial⟩)
theorem Ng{a:Addr}{c:Nat}(K:P.underlying t=some (.slice e))(O:Bz P e=some sz)(U:ρ x=.slice (some a) l c)(Y:ρ y=.int kd m)(h:0<=m/\m<l):
  Yl P ⟨d,.indexAddr t x y,ty,p,af,g⟩ ρ s (.pointer (some (a.add (m.toNat*sz)))):=
 F1 (sm:=Instr.indexAt t (ρ x) (ρ y)) V (by
  rw[U,Y];unfold Instr.indexAt
  simp only[asIntOf,bind,Sem.bind,pure]
  refine AA (x:=underlying t) _ (CE K ?_)
  simp only[Sem.bind]
  refine AA (x:=underlying t) _ (CE K ?_)
  simp only[Sem.bind,h,and_self,q1]
  refine AA (x:=Go.sizeOf e) _ (FA O ?_)
  exact⟨rfl,rfl⟩)
theorem T9{a:Addr}(K:P.underlying t=some (.array l e))(O:Bz P e=some sz)(U:ρ x=.pointer (some a))(Y:ρ y=.int kd m)(h:0<=m/\m<l):
  Yl P ⟨d,.indexAddr t x y,ty,p,af,g⟩ ρ s (.pointer (some (a.add (m.toNat*sz)))):=
 F1 (sm:=Instr.indexAt t (ρ x) (ρ y)) V (by
  rw[U,Y];unfold Instr.indexAt
  simp only[asIntOf,bind,Sem.bind,pure]
  refine AA (x:=underlying t) _ (CE K ?_)
  simp only[Sem.bind,Instr.sureAddr,pure]
  refine AA (x:=underlying t) _ (CE K ?_)
  simp only[Sem.bind,h,and_self,q1]
  refine AA (x:=Go.sizeOf e) _ (FA O ?_)
  exact⟨rfl,rfl⟩)
end
variable {ops:Ao_}{rest:List Nat}
variable{pl:Nat}
section
variable {b:Frame}{n:Nat}
variable {i:Nat}{x:Operand}{v:Value}
theorem Ka{cells:Av_}{Q:Addr->St->Prop}(K:Nd E H B)(k:∀r,Nd E H (B++ [(r,.cells cells e (0,0))])->Q ⟨r,0,none⟩ (mk E H (B++ [(r,.cells cells e (0,0))]))):lp P (newRow e cells) (mk E H B) Q X:=by
 simp only[newRow,newObj,bind,Sem.bind,lp,pure];refine⟨V,λr O U=>?_⟩;let⟨Y,Z⟩:=KM O U (.cells cells e (0,0)) K;rw[Z];exact k r Y
theorem JL.alloc{z:Value}(K:ops[i]?=some ⟨d,.alloc e,ty,p,af,g⟩)(hw:AY L ops ⟨d,.alloc e,ty,p,af,g⟩=some true)(O:BX b n ⟨d,.alloc e,ty,p,af,g⟩=true)(U:Nd E H B)(Y:zeroOf P e=some z)
  (h:∀r,Nd E H (B++ [(r,.cells z.cells e (0,0))])->JL J Q b n (AB L d (.pointer (some ⟨r,0,none⟩))) ds (.inRegion ops rest::k) cs (mk E H (B++ [(r,.cells z.cells e (0,0))]))):
  JL J Q b n L ds (.inRegion ops (i::rest)::k) cs (mk E H B):=
 JL.op K hw O λρ _=>by
  show lp P (do pure (Next.value (← Instr.alloc e true (.tuple #[])))) _ _ _
  refine AA _ _ ?_
  unfold Instr.alloc
  refine AA _ _ (Ik Y ?_)
  refine AA _ _ (Ka U λr Z=>?_)
  exact h r Z
theorem JL.box(K:ops[i]?=some ⟨d,.box e x,ty,p,af,g⟩)(hw:AY L ops ⟨d,.box e x,ty,p,af,g⟩=some true)(O:BX b n ⟨d,.box e x,ty,p,af,g⟩=true)(U:Nd E H B)(Y:ev L x=some v)
  (h:∀r,Nd E H (B++ [(r,.cells v.cells e (0,0))])->JL J Q b n (AB L d (.pointer (some ⟨r,0,none⟩))) ds (.inRegion ops rest::k) cs (mk E H (B++ [(r,.cells v.cells e (0,0))]))):
  JL J Q b n L ds (.inRegion ops (i::rest)::k) cs (mk E H B):=
 JL.op K hw O λρ Z=>by
  show lp P (do pure (Next.value (← Instr.box e (ρ x)))) _ _ _
  rw[Z x v Y]
  refine AA _ _ ?_
  unfold Instr.box
  refine AA _ _ (Ka U λr ac=>?_)
  exact h r ac
def A9(c:Av_)(off:Nat):Lv_->Av_
 | []=>c
 | v::vs=>A9 (c.setIfInBounds off v) (off+1) vs
theorem Na(c:Av_)(off:Nat)(vs:Lv_):(A9 c off vs).size=c.size:=by
 induction vs generalizing c off with
 | nil=>rfl
 | cons v vs K=>simp[A9,K]
theorem Ou{bk:Nat}{Q:Unit->St->Prop}{X:Halt->St->Prop}{pl off:Nat}{sp:Option Nat}:∀(vs:Lv_) (j:Nat) (c:Av_) (B:List (Nat×Obj)),(∀v∈vs,CM v=true)->Nd E H B->B[pl]?=some (bk,.cells c e (0,0))->off+j+vs.length<=c.size->(sp=none∨0<j)->
  (∀B',B'=B.set pl (bk,.cells (A9 c (off+j) vs) e (0,0))->Nd E H B'->Q () (mk E H B'))->lp P (storeCells ⟨bk,off,sp⟩ vs j) (mk E H B) Q X
 | [],j,c,B,_,O,K,_,_,k=>by
  simp only[storeCells,lp,pure]
  refine k B ?_ O
  simp only[A9]
  exact(q3 λi=>by
   by_cases hi:pl=i
   .subst hi
    let⟨Z,ac⟩:=d0.1 K
    simp[Z,ac]
   .simp [hi])
 | v::vs,j,c,B,U,O,K,hle,Y,k=>by
  simp only[storeCells,qz] at*
  have ag:off+j<c.size:=by omega
  have ai:(Addr.add ⟨bk,off,sp⟩ j)=⟨bk,off+j,none⟩:=by
   unfold Addr.add;split
   .rename_i al;subst al;rcases Y with rfl | Y
    .rfl
    .omega
   .rfl
  have am:(cellAt (.cells c e (0,0)) ⟨bk,off+j,none⟩).isSome=true:=by simp[cellAt,ag]
  refine AA (x:=store (Addr.add ⟨bk,off,sp⟩ j) v) _ ?_;rw[ai];refine⟨V,U v (by simp),_,Kd O K,am,by simp[frozenAt],?_⟩;simp only[lp];have ap:LK (.cells c e (0,0)) ⟨bk,off+j,none⟩ v=.cells (c.setIfInBounds (off+j) v) e (0,0):=by simp[LK]
  rw[ap,jf O K];have aq:(B.set pl (bk,.cells (c.setIfInBounds (off+j) v) e (0,0)))[pl]?=some (bk,.cells (c.setIfInBounds (off+j) v) e (0,0)):=by
   have:pl<B.length:=(d0.1 K).1;simp[this]
  refine Ou vs (j+1) _ _ (λu hu=>U u (f8 _ hu)) (O.set K) aq (by simp;omega) (.inr (by omega)) λav e2 aw=>k av ?_ aw;rw[e2,rJ];simp only[A9]
  rfl
theorem QK{c:Av_}{Q:Unit->St->Prop}(K:Bz P t=some v.cells.size)(O:∀u∈v.cells.toList,CM u=true)(U:Nd E H B)(Y:B[pl]?=some (bk,.cells c e (0,0)))(hle:off+v.cells.size<=c.size)
  (k:Nd E H (B.set pl (bk,.cells (A9 c off v.cells.toList) e (0,0)))->Q () (mk E H (B.set pl (bk,.cells (A9 c off v.cells.toList) e (0,0))))):lp P (storeVar t ⟨bk,off,none⟩ v) (mk E H B) Q X:=by
 unfold storeVar;refine AA _ _ (FA K ?_);simp only[ne_eq,not_true_eq_false,qY];refine Ou v.cells.toList 0 c B O U Y (by simpa using hle) (.inl V) λB' e Z=>?_;subst e;exact k Z
theorem JL.store{c:Av_}(pl:Nat)(O:ops[i]?=some ⟨d,.store t x y,ty,p,af,g⟩)(hw:AY L ops ⟨d,.store t x y,ty,p,af,g⟩=some true)(U:BX b n ⟨d,.store t x y,ty,p,af,g⟩=true)(Y:Nd E H B)
  (Z:ev L x=some (.pointer (some ⟨bk,off,none⟩))) (ac:ev L y=some v) (ag:Bz P t=some v.cells.size) (ai:∀u∈v.cells.toList,CM u=true) (al:B[pl]?=some (bk,.cells c e (0,0))) (hle:off+v.cells.size<=c.size)
  (h:Nd E H (B.set pl (bk,.cells (A9 c off v.cells.toList) e (0,0)))->JL J Q b n (AB L d undef) ds (.inRegion ops rest::k) cs (mk E H (B.set pl (bk,.cells (A9 c off v.cells.toList) e (0,0))))):
  JL J Q b n L ds (.inRegion ops (i::rest)::k) cs (mk E H B):=
 JL.op O hw U λρ K=>by
  show lp P (do Instr.storeAt t (ρ x) (ρ y);pure Next.skip) _ _ _
  rw[K x _ Z,K y _ ac]
  refine AA _ _ ?_
  unfold Instr.storeAt
  simp only[Instr.sureAddr,bind,Sem.bind,pure]
  exact QK ag ai Y al hle λam=>h am
end
def F6(P:Program)(t:TypeId):Option Nat:=(P.info? t).map (·.bytes)
variable{cx hi lo mx:Nat}{xs ys:Lv_}{ax:Option Addr}
section
variable {b:Frame}{n:Nat}
variable {i:Nat}{x:Operand}{v:Value}
theorem Lo{inf:TypeInfo}{Q:TypeInfo->St->Prop}(h:P.info? t=some inf)(k:Q inf s):lp P (typeInfo t) s Q X:=by
 simp only[typeInfo,bind,Sem.bind,program,lp,h];exact k
theorem QY(h:F6 P t=some sz):∃inf,P.info? t=some inf/\inf.bytes=sz:=by
 unfold F6 at h;cases hi:P.info? t with
 | none=>rw[hi] at h;cases h
 | some i=>rw[hi] at h;simp at h;exact⟨i,rfl,h⟩
theorem Ke{z y:Nat}{code:BoundsCode}{f:Nat->Sem β}{K:β->St->Prop}(Y:z<=y)(O:lp P (f z) s K X):lp P (Instr.sliceBound (.int .i64 z) y code>>=f) s K X:=by
 refine AA _ _ ?_;unfold Instr.sliceBound;have U:(0:Int)<=(z:Int)/\(z:Int)<=(y:Int):=⟨by omega,by omega⟩;simp only[asIntOf,bind,Sem.bind,pure];rw[d7 U];simpa [lp] using O
theorem IN(a:α)(f:α->Sem β):((pure a:Sem α)>>=f)=f a:=rfl
theorem jM{c:Nat}:lp P (Instr.sliceBounds true l c none none none) s (λr s'=>r=(0,l,c)/\s'=s) X:=by
 unfold Instr.sliceBounds;exact⟨V,V⟩
theorem jV{c:Nat}(K:lo<=l):lp P (Instr.sliceBounds true l c (some (.int .i64 lo)) none none) s (λr s'=>r=(lo,l,c)/\s'=s) X:=by
 simp only[Instr.sliceBounds,q1,sL,tc,qe,qY,IN];exact Ke K ⟨V,V⟩
theorem jJ{c:Nat}(hh:hi<=c):lp P (Instr.sliceBounds true l c none (some (.int .i64 hi)) none) s (λr s'=>r=(0,hi,c)/\s'=s) X:=by
 simp only[Instr.sliceBounds,q1,sL,tc,qe,qY,IN];exact Ke hh ⟨V,V⟩
theorem kh{c:Nat}(hh:hi<=c)(K:lo<=hi):lp P (Instr.sliceBounds true l c (some (.int .i64 lo)) (some (.int .i64 hi)) none) s (λr s'=>r=(lo,hi,c)/\s'=s) X:=by
 have e:Instr.sliceBounds true l c (some (.int .i64 lo)) (some (.int .i64 hi)) none=(Instr.sliceBound (.int .i64 hi) c .sliceAcap>>=λh=>Instr.sliceBound (.int .i64 lo) h .sliceB>>=λl=>pure (l,h,c)):=by
  simp[Instr.sliceBounds]
 rw[e];exact Ke hh (Ke K ⟨V,V⟩)
theorem jW{c:Nat}(hm:mx<=c)(hh:hi<=mx):lp P (Instr.sliceBounds true l c none (some (.int .i64 hi)) (some (.int .i64 mx))) s (λr s'=>r=(0,hi,mx)/\s'=s) X:=by
 simp only[Instr.sliceBounds,q1,sL,tc,qe,qY,IN];exact Ke hm (Ke hh ⟨V,V⟩)
theorem js{c:Nat}(hm:mx<=c)(hh:hi<=mx)(K:lo<=hi):lp P (Instr.sliceBounds true l c (some (.int .i64 lo)) (some (.int .i64 hi)) (some (.int .i64 mx))) s (λr s'=>r=(lo,hi,mx)/\s'=s) X:=by
 simp only[Instr.sliceBounds,q1,sL,tc,qe,qY,IN];exact Ke hm (Ke hh (Ke K ⟨V,V⟩))
theorem YR{c:Nat}{Y Z ac:Option Value}
  (O:match ac with | some w=>w=.int .i64 mx | none=>mx=c) (K:match Z with | some w=>w=.int .i64 hi | none=>hi=l/\ac=none) (U:match Y with | some w=>w=.int .i64 lo | none=>lo=0) (hm:mx<=c) (hh:hi<=mx) (ag:lo<=hi):
  lp P (Instr.sliceBounds true l c Y Z ac) s (λr s'=>r=(lo,hi,mx)/\s'=s) X:=by
 cases ac with
 | none=>
  cases Z with
  | none=>
   cases Y with
   | none=>obtain rfl:mx=c:=O;obtain rfl:hi=l:=K.1;obtain rfl:lo=0:=U;exact jM
   | some w=>obtain rfl:mx=c:=O;obtain rfl:hi=l:=K.1;obtain rfl:w=.int .i64 lo:=U;exact jV ag
  | some w=>
   cases Y with
   | none=>obtain rfl:mx=c:=O;obtain rfl:w=.int .i64 hi:=K;obtain rfl:lo=0:=U;exact jJ hh
   | some w'=>obtain rfl:mx=c:=O;obtain rfl:w=.int .i64 hi:=K;obtain rfl:w'=.int .i64 lo:=U;exact kh hh ag
 | some w0=>
  cases Z with
  | none=>exact absurd K.2 (λh=>by cases h)
  | some w=>
   cases Y with
   | none=>obtain rfl:w0=.int .i64 mx:=O;obtain rfl:w=.int .i64 hi:=K;obtain rfl:lo=0:=U;exact jW hm hh
   | some w'=>obtain rfl:w0=.int .i64 mx:=O;obtain rfl:w=.int .i64 hi:=K;obtain rfl:w'=.int .i64 lo:=U;exact js hm hh ag
theorem bR{a:Option Addr}{c:Nat}{O U K:Option Value}{Q:Value->St->Prop}(Y:P.underlying t=some (.slice e))(Z:Bz P e=some sz)
  (ac:match K with | some w=>w=.int .i64 mx | none=>mx=c) (ag:match U with | some w=>w=.int .i64 hi | none=>hi=l/\K=none) (ai:match O with | some w=>w=.int .i64 lo | none=>lo=0) (hm:mx<=c) (hh:hi<=mx) (al:lo<=hi)
  (k:Q (.slice (if mx=lo then a else a.map (·.add (lo*sz))) (hi - lo) (mx - lo)) s):lp P (Instr.slice t (.slice a l c) O U K) s Q X:=by
 unfold Instr.slice;refine AA _ _ (CE Y ?_);have hb:=YR (P:=P) (s:=s) (X:=X) ac ag ai hm hh al;refine AA _ _ (Es _ hb ?_ (λ_ _ h=>h));rintro r s' ⟨rfl,rfl⟩;exact AA _ _ (FA Z k)
theorem Yl.slice{ρ:Operand->Value}{a:Option Addr}{c:Nat}{olo ohi omx:Option Operand}(O:P.underlying t=some (.slice e))(U:Bz P e=some sz)(Y:ρ x=.slice a l c)
  (Z:match omx with | some w=>ρ w=.int .i64 mx | none=>mx=c) (K:match ohi with | some w=>ρ w=.int .i64 hi | none=>hi=l/\omx=none) (ac:match olo with | some w=>ρ w=.int .i64 lo | none=>lo=0) (hm:mx<=c) (hh:hi<=mx) (ag:lo<=hi):
  Yl P ⟨d,.slice t x olo ohi omx,ty,p,af,g⟩ ρ s (.slice (if mx=lo then a else a.map (·.add (lo*sz))) (hi - lo) (mx - lo)):=
 F1 (sm:=Instr.sliceAt t (ρ x) (olo.map ρ) (ohi.map ρ) (omx.map ρ)) V (by
  rw[Y];unfold Instr.sliceAt
  refine AA _ _ (CE O ?_)
  refine bR O U (mx:=mx) (hi:=hi) (lo:=lo) ?_ ?_ ?_ hm hh ag ⟨rfl,rfl⟩;cases omx<;>exact Z
  .cases ohi with
   | none=>exact⟨K.1,by rw[K.2];rfl⟩
   | some w=>exact K
  .cases olo<;>exact ac)
def IA(s:St)(v:Value)(sz:Nat)(xs:Lv_):Prop:=
 match v with
 | .slice (some a) l c=>(a.spot=none∨l=0)/\xs.length=l*sz/\l<=c/\∀j w,xs[j]?=some w->s.cell? ⟨a.block,a.off+j,none⟩=some w
 | .slice none l _=>l=0/\xs=[]
 | _=>False
theorem Et{a:Addr}(h:a.spot=none)(j:Nat):a.add j=⟨a.block,a.off+j,none⟩:=by
 unfold Addr.add;obtain⟨b,o,sp⟩:=a;simp only at h;subst h;split;rename_i e;subst e;rfl;rfl
theorem Lm{Q:Av_->St->Prop}(Y:∃a c,v=.slice a l c)(h:IA s v sz xs)(k:Q xs.toArray s):lp P (Builtin.firstCells sz l v) s Q X:=by
 obtain⟨a,c,rfl⟩:=Y;cases a with
 | none=>
  obtain⟨K,rfl⟩:=h;exact k
 | some a=>
  obtain⟨K,O,ac,Z⟩:=h;refine Tn O.symm (λj w U=>?_) k;rcases K with K | K;rw[Et K];exact Z j w U;rw[K,se] at O;rw[qx O] at U;cases U
theorem Zo(nl:Nat):∀(r c:Nat),Builtin.growBy nl r c<=max c (2*nl+768):=by
 intro r
 induction r with
 | zero=>intro c;simp[Builtin.growBy];omega
 | succ r K=>
  intro c;simp only[Builtin.growBy];split;omega;rename_i h;have:=K (c+(c+768)/4);omega
theorem TN{need old:Nat}(h:old<need):Builtin.nextslicecap need old<=2*need+768:=by
 unfold Builtin.nextslicecap;split;omega;split;omega;have:=Zo need 4 old;omega
theorem S7(z:Av_)(m:Nat):(Builtin.zeroCells z m).size=m*z.size:=by simp[Builtin.zeroCells]
def Qj(B:List (Nat×Obj))(pl:Nat)(e:TypeId)(sz:Nat)(a:Option Addr)(l c:Nat)(xs:Lv_):Prop:=
 (a=none/\l=0/\c=0/\xs=[])∨∃bk f,a=some ⟨bk,0,none⟩/\B[pl]?=some (bk,.cells f e (0,0))/\f.size=c*sz/\l<=c/\xs=f.toList.take (l*sz)
theorem QJ(c:Av_)(off:Nat)(vs:Lv_)(h:off+vs.length<=c.size):(A9 c off vs).toList.take (off+vs.length)=c.toList.take off++vs:=by
 induction vs generalizing c off with
 | nil=>simp[A9]
 | cons v vs O=>
  simp only[A9,qz] at*;have:=O (c.setIfInBounds off v) (off+1) (by simp;omega);rw[show off+(vs.length+1)=off+1+vs.length from by omega,this];have K:off<c.toList.length:=by simp;omega
  rw[Array.toList_setIfInBounds,q4];have U:(c.toList.set off v)[off]?=some v:=by simp at K;simp[K]
  rw[U];simp[List.take_set_of_le]
theorem Q6{a:Option Addr}{c id m:Nat}{z:Value}{Q:Value->St->Prop}
  (a5:ats[0]?=some t) {t1 a6:TypeId}(a7:ats[1]?=some t1) (a8:P.underlying t1=some (.slice a6)) (a9:P.underlying t=some (.slice e)) (bb:Bz P e=some sz) (hb:F6 P e=some id) (be:zeroOf P e=some z) (bi:z.cells.size=sz)
  (am:Nd E H B) (ap:Qj B pl e sz a l c xs)
  (ai:IA (mk E H B) (.slice ax m cx) sz ys) (bn:∀w∈ys,CM w=true) (b5:0<id) (b6:l+m<=2^40) (bo:id<=64)
  (bv:∀bk f K,a=some ⟨bk,0,none⟩->B[pl]?=some (bk,.cells f e (0,0))->K=A9 f (l*sz) ys->l+m<=c->K.size=c*sz->K.toList.take ((l+m)*sz)=xs++ys->Nd E H (B.set pl (bk,.cells K e (0,0)))->Q (.slice a (l+m) c) (mk E H (B.set pl (bk,.cells K e (0,0)))))
  (bw:a=none->m=0->Q (.slice none 0 0) (mk E H B))
  (bx:∀r K Y,l+m<=Y->K.size=Y*sz->K.toList.take ((l+m)*sz)=xs++ys->Nd E H (B++ [(r,.cells K e (0,0))])->Q (.slice (some ⟨r,0,none⟩) (l+m) Y) (mk E H (B++ [(r,.cells K e (0,0))]))):
  lp P (Builtin.append_ ats ty #[.slice a l c,.slice ax m cx]) (mk E H B) Q X:=by
 unfold Builtin.append_;simp only[a5,a7,qE,ri,rF];refine AA _ _ (CE a9 ?_);refine AA _ _ (FA bb ?_);refine AA _ _ (CE a8 ?_);simp only[IN,qe,qY,Builtin.lenOf,uh,q1];have Z:ys.length=m*sz:=by
  cases ax with
  | none=>obtain⟨aq,av⟩:=ai;subst aq av;simp
  | some ad=>exact ai.2.1
 have aw:∃(bz:Option Addr) (Y:Nat),IA (mk E H B) (.slice a l c) sz xs/\bz=a/\Y=c:=by
  refine⟨a,c,?_,V,V⟩;rcases ap with⟨rfl,rfl,rfl,rfl⟩ | ⟨bk,f,rfl,ac,O,ag,rfl⟩;exact⟨V,V⟩
  .have hle:l*sz<=f.size:=by rw[O];exact qR _ ag
   refine⟨.inl V,by simp[sk hle],ag,λj w al=>?_⟩;refine Uk am ac ?_;simp only[rO];rw[rq] at al;split at al;simpa using al;cases al
 obtain⟨_,_,aw,_,_⟩:=aw;have ay:xs.length=l*sz:=by
  rcases ap with⟨rfl,rfl,rfl,rfl⟩ | ⟨bk,f,rfl,ac,O,ag,rfl⟩;simp
  .have hle:l*sz<=f.size:=by rw[O];exact qR _ ag
   simp[sk hle]
 split
 .rename_i a3;refine AA _ _ (Lm ⟨ax,cx,V⟩ ai ?_);rcases ap with⟨rfl,rfl,rfl,rfl⟩ | ⟨bk,f,rfl,ac,O,ag,rfl⟩
  .obtain rfl:m=0:=by omega
   simp only;exact bw V V
  .simp only;have hle:l*sz+ys.length<=f.size:=by rw[Z,O,← r4];exact qR _ a3
   have b0:(Addr.add ⟨bk,0,none⟩ (l*sz))=⟨bk,l*sz,none⟩:=by rw[Et rfl];simp
   rw[b0];refine AA _ _ (Ou (pl:=pl) ys.toArray.toList 0 f B (by simpa using bn) am ac (by simpa using hle) (.inl V) λB' a4 az=>?_);simp only[re] at a4;subst a4;refine bv bk f _ V ac V a3 (by rw[Na,O]) ?_ az;have:=QJ f (l*sz) ys hle;rw[Z,← r4] at this;exact this
 .rename_i ca;have aq:¬(((l+m:Nat):Int)>IntKind.i64.max/\(False∨id=0)):=by rintro⟨_,h | h⟩<;>omega
  have av:¬(Builtin.nextslicecap (l+m) c*id>2^48):=by
   have:=TN (need:=l+m) (old:=c) (by omega);have cc:Builtin.nextslicecap (l+m) c*id<=(2*(l+m)+768)*64:=Nat.mul_le_mul this bo;omega
  let⟨inf,a0,a1⟩:=QY hb;refine AA _ _ (Lo a0 ?_);rw[a1,d9 aq];refine AA _ _ (Lo a0 ?_);rw[a1,d9 av];refine AA _ _ ?_;simp only[choose,lp,Question.forced,qe,qY];refine⟨V,λb1=>?_⟩;generalize b2:(Question.appendCap (l+m) c e).cut b1=a2;have b3:l+m<=a2:=by rw[← b2];simp[Question.cut]
  refine AA _ _ (Lo a0 ?_);rw[a1];have b4:∀{α:Type}{f:Unit->Sem α}{Q:α->St->Prop},lp P (f ()) (mk E H B) Q X->lp P (askRoom (a2*id)>>=f) (mk E H B) Q X:=by
   intro α f Q O;refine AA _ _ ?_;unfold askRoom;split;exact⟨.inl ⟨V,V⟩,O⟩;exact O
  refine b4 (AA _ _ (Lm ⟨a,c,V⟩ aw ?_));refine AA _ _ (Lm ⟨ax,cx,V⟩ ai ?_);refine AA _ _ (Ik be ?_);refine AA _ _ (Ka am λr az=>?_);refine bx r _ a2 b3 ?_ ?_ az;simp only[Array.size_append,r7,S7,bi,ay,Z];rw[← r4,← r4];congr 1;omega;simp only[Array.toList_append];rw[tD (by simp[ay,Z,r4])];rw[rj (by simp[ay,Z,r4])]
end
theorem Qt{P:Program}(x:Sem α):∀{s:St}{Q:α->St->Prop}{X:Halt->St->Prop},lp P x s Q X->lp P x s (λa s'=>Q a s'/\s'.E=s.E/\s'.q=s.q) X:=by
 induction x with
 | pure a=>intro s Q X h;exact⟨h,rfl,rfl⟩
 | load m a k K=>intro s Q X h;obtain⟨O,v,U,Y⟩:=h;exact⟨O,v,U,K _ Y⟩
 | store m a v k K=>intro s Q X h;obtain⟨O,U,o,Y,ac,ag,ai⟩:=h;exact⟨O,U,o,Y,ac,ag,K ai⟩
 | new o k K=>intro s Q X h;exact⟨h.1,λr O U=>K _ (h.2 r O U)⟩
 | shape r k K=>intro s Q X h;obtain⟨o,O,U⟩:=h;exact⟨o,O,K _ U⟩
 | freeze a n k K=>intro s Q X h;exact h
 | frozen a k K=>intro s Q X h;obtain⟨o,O,U⟩:=h;exact⟨o,O,K _ U⟩
 | getObj r k K=>intro s Q X h;obtain⟨o,O,U,Y⟩:=h;exact⟨o,O,U,K _ Y⟩
 | setObj r o k K=>intro s Q X h;obtain⟨O,U,Y⟩:=h;exact⟨O,U,K Y⟩
 | choose q k K=>
  intro s Q X h;simp only[lp] at h ⊢;split;rename_i Z;rw[d7 Z] at h;exact K _ h;rename_i Z;rw[d9 Z] at h;exact⟨h.1,λt=>K _ (h.2 t)⟩
 | sys c k K=>intro s Q X h;exact h
 | program k K=>intro s Q X h;exact K _ h
 | mark m k K=>intro s Q X h;exact⟨h.1,K h.2⟩
 | halt h=>intro s Q X h;exact h
def BA(D:Nat->Bool)(s:St):St:=⟨λb=>if D b then s.get b else s.E b,λb=>if D b then none else s.H b,s.q⟩
def Ct(D:Nat->Bool)(s s':St):St:=⟨λb=>if D b then s.E b else s'.E b,λb=>if D b then s.H b else s'.H b,s'.q⟩
theorem Mm(D:Nat->Bool)(s:St):Ct D s (BA D s)=s:=by
 obtain⟨E,H,q⟩:=s;unfold Ct BA;congr 1;funext b;by_cases h:D b<;>simp[h];funext b;by_cases h:D b<;>simp[h]
theorem cb{D:Nat->Bool}{s:St}(f:Fits s w):Fits (BA D s) w where
 e b o h:=by
  by_cases hd:D b;simp[BA,hd] at h;exact f.get h;simp[BA,hd] at h;exact f.e b o h
 h b o h:=by
  by_cases hd:D b;simp[BA,hd] at h;simp[BA,hd] at h;exact f.h b o h
 d b h:=by
  by_cases hd:D b;simp[BA,hd];simp[BA,hd] at h ⊢;exact f.d b h
def Fc{P:Program}(J:Judge P)(f:FuncId)(args:Av_)(s:St)(R:Value->St->Prop):Prop:=
 ∀(Q:Gs_) (c:Frame) (cs:Lf_),(∀v s',R v s'->J.ok Q (G (c.finish v) cs) s')->J.ok Q (G (Frame.enter P f args .normal) (c::cs)) s
variable{R:Value->St->Prop}
theorem Fc.Ah{P:Program}{J:Judge P}{f:FuncId}{s:St}{K:Value->St->Prop}(h:Fc J f args s R)(O:∀v s',R v s'->K v s'):Fc J f args s K:=
 λQ c cs U=>h Q c cs λv s' Y=>U v s' (O v s' Y)
section
variable {b:Frame}{n:Nat}
theorem Judge.Vu(D:Nat->Bool){ops:Ao_}{i:Nat}{rest:List Nat}{o:Oper}(Y:ops[i]?=some o)(hw:Region.wanted o (yielded ops T)=true)(a4:b.kind≠ .early)
  (hd:∀c,o.op≠ .defer c) (a5:s.q=false)
  (h:lp P (execOp (BK T) o) (BA D s) (λam s'=>upon J Q b T ds ops i rest k cs o.dst am (Ct D s s')) (λ_ _=>False)):
  J.ok Q (G (fr b T ds (.inRegion ops (i::rest)::k)) cs) s:=by
 refine J.step ⟨V,λw f=>?_,λe=>by subst e;cases a5⟩;have Z:((fr b T ds (.inRegion ops (i::rest)::k)).kind==CallKind.early)=false:=by simpa [fr] using a4
 have a6:stepG P J.main (G (fr b T ds (.inRegion ops (i::rest)::k)) cs) w=stepG.apply P true (fr b T ds (.inRegion ops (i::rest)::k)) cs none (execOp (BK T) o) w:=by
  rw[stepG_op Y hw];split;rename_i l c bn e2;exact absurd e2 (hd c);rfl
 let⟨ac,ap,aq,a7,O⟩:=OJ _ (Qt _ h) (cb (D:=D) f);have av:=RL (P:=P) (fn:=b.fn) a7;have az:=λv=>G9 (b:=b) (ds:=ds) (k:=k) T ops i rest v o Y;have key:∀w',Fits ac w'->Fr (BA D s) w ac w'->ac.E=(BA D s).E->Fits (Ct D s ac) w'/\Fr s w (Ct D s ac) w':=by
  intro w' g1 g2 a8;have a0:∀b,D b=true->b<w.heap.size->w'.heap[b]?=w.heap[b]? :=λb hb aw=>g2.keep b aw (by simp[BA,hb]);have a1:∀b o,(s.H b=some o∨s.E b=some o)->b<w.heap.size:=λb o Y=>by
   have:=Y.elim (f.h b o) (f.e b o);rcases gD b w.heap.size with ay | ay;exact ay;simp[qg ay] at this
  refine⟨⟨λb o hb=>?_,λb o hb=>?_,λb hb=>?_⟩,⟨g2.size,λb aw hb=>?_,λb hb=>?_,λb o hb=>?_,λb hb=>?_,g2.tape,g2.os,g2.output⟩⟩;by_cases K:D b;simp[Ct,K] at hb;rw[a0 b K (a1 b o (.inr hb))];exact f.e b o hb;simp[Ct,K] at hb;exact g1.e b o hb;by_cases K:D b;simp[Ct,K] at hb;rw[a0 b K (a1 b o (.inl hb))];exact f.h b o hb;simp[Ct,K] at hb;exact g1.h b o hb;by_cases K:D b;simp[Ct,K] at hb ⊢;exact f.d b hb;simp[Ct,K] at hb ⊢;exact g1.d b hb;exact g2.keep b aw (by by_cases K:D b<;>simp[BA,K,hb]);by_cases K:D b;simp[Ct,K] at hb;exact .inl hb;simp[Ct,K] at hb;rcases g2.own b hb with q | q;left;simpa [BA,K] using q;exact .inr q;by_cases K:D b;simp[Ct,K];exact hb;simp only[Ct,K,qe,qY];rw[a8];simp[BA,K,hb];by_cases K:D b;simp[Ct,K] at hb;exact .inl hb;simp[Ct,K] at hb;rcases g2.Fp b hb with q | q | q;left;simpa [BA,K] using q;right;left;simpa [BA,K] using q;exact .inr (.inr q)
 have a9:∀w',(∀e∈seen P b.fn ((execOp (BK T) o).events P w #[]),Ev (BA D s) w w' e)->∀e∈seen P b.fn ((execOp (BK T) o).events P w #[]),Ev s w w' e:=by
  intro w' he e hm;have:=he e hm;have a2:∀{b wr},Ht (BA D s) w w' b wr->Ht s w w' b wr:=by
   intro b wr a3;refine⟨a3.1,?_⟩;rcases a3.2 with q | q | ⟨q,q'⟩;left;by_cases K:D b<;>simp[BA,K] at q;exact q;exact .inr (.inl q);by_cases K:D b;simp[BA,K,St.get] at q;by_cases al:s.E b=none;left;intro bb;rw[al,bb] at q;exact q V;exact .inr (.inr ⟨al,q'⟩);simp[BA,K] at q;exact .inr (.inr ⟨q,q'⟩)
  unfold Ev at this ⊢;split<;>rename_i be<;>simp only[be] at this;exact⟨this.1,a2 this.2⟩;exact⟨this.1,a2 this.2⟩;trivial;trivial
 rw[a6];cases U:(execOp (BK T) o).run P w with
 | ok am w'=>
  rw[U] at ap aq O av;simp only[LU] at ap aq av;obtain⟨O,al,_⟩:=O;let⟨k1,ag⟩:=key w' ap aq al;have ai:=a9 w' av;cases am with
  | value v=>exact⟨_,_,w',seen P b.fn ((execOp (BK T) o).events P w #[])++ #[],by simp[stepG.apply,U,Z,GStep.after,G,az,GC],O,k1,ag,by simpa using ai⟩
  | skip=>exact⟨_,_,w',seen P b.fn ((execOp (BK T) o).events P w #[])++ #[],by simp[stepG.apply,U,Z,GStep.after,G,az,GC],O,k1,ag,by simpa using ai⟩
  | enter g args=>exact⟨_,_,w',seen P b.fn ((execOp (BK T) o).events P w #[])++ #[],by simp[stepG.apply,U,Z,GStep.after,G,GC,IX],O,k1,ag,by simpa using ai⟩
  | round l g tm as bo=>exact⟨_,_,w',seen P b.fn ((execOp (BK T) o).events P w #[])++ #[],by simp[stepG.apply,U,Z,GStep.after,G,GC,IX],O,k1,ag,by simpa using ai⟩
  | defer d=>
   have bi:=G9 (b:=b) (ds:=d::ds) (k:=k) T ops i rest undef o Y;exact⟨_,_,w',seen P b.fn ((execOp (BK T) o).events P w #[])++ #[],by
    rw[← bi];simp[stepG.apply,U,Z,GStep.after,G,GC,IX];rfl,O,k1,ag,by simpa using ai⟩
  | _=>exact O.elim
 | halt x w'=>rw[U] at O;exact O.elim
end
def Sp(m:Nat)(listed:Array Bool):Bool:=(List.range m).all λi=>listed.getD i false
def Bm(listed:Array Bool)(i:Nat):Array Bool:=listed.setIfInBounds i true
variable{oi:Oper}
section
variable (J:Judge P)(Q:Gs_)(b:Frame)(ds:Ld_)(ops:Ao_)(k:Li_)(cs:Lf_)(m:Nat)(D:Nat->Bool)
def JA:Nat->Array Bool->Av_->St->Prop
 | 0,listed,T,s=>Region.ready .any ops listed=[]/\J.ok Q (G (fr b T ds (.inRegion ops []::k)) cs) s
 | fuel+1,listed,T,s=>
  (Sp m listed=true/\∀t,J.ok Q (G (fr b T ds (.inRegion ops (Region.linearise.go .any ops (fuel+1) t listed [])::k)) cs) s)∨
  (Region.ready .any ops listed≠ []/\s.q=false/\∀i∈Region.ready .any ops listed,∀o,ops[i]?=some o->(∀c,o.op≠ .defer c)/\
   (Region.wanted o (yielded ops T)=false->JA fuel (Bm listed i) (C6 T o.dst undef) s)/\
   (Region.wanted o (yielded ops T)=true->lp P (execOp (BK T) o) (BA D s) (λO s'=>match O with
    | .value v=>JA fuel (Bm listed i) (C6 T o.dst v) (Ct D s s')
    | .skip=>JA fuel (Bm listed i) (C6 T o.dst undef) (Ct D s s')
    | .enter f args=>∃R,Fc J f args (Ct D s s') R/\∀v K,R v K->K.q=false/\(∀x o,(BA D s).E x=some o->(BA D K).E x=some o)/\JA fuel (Bm listed i) (C6 T o.dst v) K
    | _=>False) (λ_ _=>False)))
variable {J Q b ds ops k cs m D}
theorem aO(Z:b.kind≠ .early):∀(fuel t:Nat) (listed:Array Bool) (T:Av_) (s:St),JA J Q b ds ops k cs m D fuel listed T s->
  J.ok Q (G (fr b T ds (.inRegion ops (Region.linearise.go .any ops fuel t listed [])::k)) cs) s:=by
 intro fuel
 induction fuel with
 | zero=>intro t listed T s h;simpa [Region.linearise.go] using h.2
 | succ fuel K=>
  intro t listed T s h;rcases h with⟨_,h⟩ | ⟨ac,ag,h⟩;exact h t
  .obtain⟨i,hi⟩:∃i,(Region.ready .any ops listed)[t%(Region.ready .any ops listed).length]?=some i:=by
    have:0<(Region.ready .any ops listed).length:=tH.2 ac;exact⟨_,d6 (tl _ this)⟩
   have Y:=qi hi;have hgo:Region.linearise.go .any ops (fuel+1) t listed []=i::Region.linearise.go .any ops fuel (t/(Region.ready .any ops listed).length) (Bm listed i) []:=by
    simp only[Region.linearise.go];change (match(Region.ready .any ops listed)[t%(Region.ready .any ops listed).length]? with
     | some i=>Region.linearise.go .any ops fuel (t/(Region.ready .any ops listed).length) (listed.setIfInBounds i true) [i]
     | none=>[].reverse)=_
    rw[hi];simp only;rw[linearise_go_acc];rfl
   rw[hgo];let⟨_,o,O,_⟩:=mem_ready.1 Y;let⟨hd,ai,al⟩:=h i Y o O;cases hw:Region.wanted o (yielded ops T) with
   | false=>exact Judge.unwanted O hw (K _ _ _ _ (ai hw))
   | true=>
    refine Judge.Vu D O hw Z hd ag (Es _ (al hw) ?_ (λ_ _ h=>h));intro am s' U;cases am with
    | value v=>exact K _ _ _ _ U
    | skip=>exact K _ _ _ _ U
    | enter f args=>
     obtain⟨R,ap,aq⟩:=U;refine ap Q _ cs λv av aw=>?_;rw[G9 _ _ _ _ _ _ O];exact K _ _ _ _ (aq v av aw).2.2
    | _=>exact U.elim
theorem cB{d:Option Tmp}{v:Value}{x:Operand}(h:∀t,d=some t->x≠ .tmp t):BK (C6 T d v) x=BK T x:=by
 cases d with
 | none=>rfl
 | some t=>
  cases x with
  | tmp u=>
   have K:t≠u:=λe=>h t rfl (e▸rfl);simp only[C6,BK,gR,mt K]
  | _=>rfl
theorem IQ{d:Option Tmp}{v:Value}{o:Oper}(K:∀cs b,o.op≠ .select cs b)(h:∀t,d=some t->t ∉ o.looksAt ops):
  execOp (BK (C6 T d v)) o=execOp (BK T) o/\Region.wanted o (yielded ops (C6 T d v))=Region.wanted o (yielded ops T):=by
 refine⟨execOp_congr o K λx O=>cB λt U Y=>h t U ?_,?_⟩;subst Y;exact qZ _ (List.mem_filterMap.2 ⟨.tmp t,by simpa using O,V⟩)
 .have:=wanted_put (ops:=ops) o (⟨T,[]⟩:Act) d v h
  rwa[act_put'] at this
 where
  act_put' {T : Av_}{d : Option Tmp}{v : Value} : (⟨T, []⟩ : Act).put d v = ⟨C6 T d v, []⟩ :=by cases d<;>rfl
theorem Kb{d e:Option Tmp}{v u:Value}(h:∀t,d=some t->e≠some t):C6 (C6 T d v) e u=C6 (C6 T e u) d v:=by
 cases d with
 | none=>rfl
 | some t=>
  cases e with
  | none=>rfl
  | some K=>
   have O:t≠K:=λq=>h t rfl (q▸rfl);simp[C6,td _ _ O]
theorem Ty{D:Nat->Bool}{s s':St}(K:s'.E=(BA D s).E):(BA D (Ct D s s')).E=(BA D s).E:=by
 funext x;by_cases h:D x;simp[BA,Ct,h,St.get];have:=uy K x;simp[BA,h] at this;simp[BA,Ct,h,this]
def JD(ops:Ao_)(listed:Array Bool)(i:Nat)(oi:Oper):Bool:=
 (List.range ops.size).all λj=>j==i || listed.getD j true || match ops[j]? with
  | some K=>(K.after.any λe=>Region.binds .any e&&e.on==i) || oi.apart ops K
  | none=>true
def waits(ops:Ao_):Nat->Nat->Nat->Bool
 | 0,_,_=>false
 | f+1,j,i=>match ops[j]? with
  | some K=>K.after.any λe=>Region.binds .any e&&(e.on==i || waits ops f e.on i)
  | none=>true
def EB(ops:Ao_)(m:Nat):Bool:=
 (List.range ops.size).all λj=>decide (j<m) || (List.range m).all λi=>waits ops ops.size j i
def Iv(ops:Ao_)(listed:Array Bool):Bool:=
 (List.range ops.size).all λj=> !listed.getD j false || match ops[j]? with
  | some K=>K.after.all λe=> !Region.binds .any e || listed.getD e.on false
  | none=>true
theorem QP{listed:Array Bool}(h:Iv ops listed=true){j:Nat}(O:ops[j]?=some oi)(U:listed.getD j false=true):∀e∈oi.after,Region.binds .any e=true->listed.getD e.on false=true:=by
 intro e he hb;have:=qs.1 h j (qc.2 (f4.1 O).1);rw[U,O] at this;simp only[ut,uu] at this;have:=sf.1 this e he;rw[hb] at this;simpa using this
theorem Tk{listed:Array Bool}(Z:Iv ops listed=true){i:Nat}:∀(f j:Nat) (O:Oper),ops[j]?=some O->(∀e∈O.after,Region.binds .any e=true->listed.getD e.on false=true)->waits ops f j i=true->listed.getD i false=true∨∃x,ops[x]?=none/\listed.getD x false=true:=by
 intro f
 induction f with
 | zero=>intro j O _ _ h;cases h
 | succ f ac=>
  intro j O ag hd h;simp only[waits,ag] at h;let⟨e,he,K⟩:=Array.any_eq_true'.1 h;simp only[f5,rb,rR] at K;obtain⟨hb,K⟩:=K;have U:=hd e he hb;rcases K with rfl | K;exact .inl U
  .cases Y:ops[e.on]? with
   | none=>exact .inr ⟨_,Y,U⟩
   | some o=>exact ac e.on o Y (λai al am=>QP Z Y U ai al am) K
theorem JA.take{i:Nat}{w:Bool}{v:Value}(hi:ops[i]?=some oi)(co:i<m)(cp:EB ops m=true)(ct:Region.noSelect ops=true)(cw:∀c,oi.op≠ .defer c):
  ∀(fuel:Nat) (listed:Array Bool) (T:Av_) (s:St),JD ops listed i oi=true->Iv ops listed=true->listed.size=ops.size->i∈Region.ready .any ops listed->s.q=false->Region.wanted oi (yielded ops T)=w->
   (w=true->∀s',s'.q=false->(∀x o,(BA D s).E x=some o->s'.E x=some o)->Yl P oi (BK T) s' v)->
   JA J Q b ds ops k cs m D fuel (Bm listed i) (C6 T oi.dst (if w then v else undef)) s->JA J Q b ds ops k cs m D (fuel+1) listed T s:=by
 have aq:∀(j:Nat) (ag:Oper),ops[j]?=some ag->∀cs b,ag.op≠Op.select cs b:=λj ag h cs b=>Region.noSelect_spec ct j ag cs b h;intro fuel
 induction fuel with
 | zero=>?_
 | succ fuel a0=>?_
 all_goals
  intro listed T s b0 b1 av a2 a3 hw aw h;refine .inr ⟨λe=>(by rw[e] at a2;cases a2),a3,λj b2 ag O=>?_⟩;by_cases ap:j=i
  .subst ap;obtain rfl:ag=oi:=by rw[hi] at O;exact(f6 O).symm
   refine⟨cw,λbe=>?_,λbi=>?_⟩;rw[be] at hw;subst hw;exact h;rw[bi] at hw;subst hw;refine Es _ (aw V (BA D s) a3 λ_ _ h=>h).out ?_ (λ_ _ h=>h);rintro b3 s' ⟨rfl,rfl⟩;rw[Mm];exact h
  ·
   have b4:j∈Region.ready .any ops (Bm listed i):=ready_mono b2 ap;let⟨ai,U,b5,bn⟩:=mem_ready.1 b2;obtain rfl:U=ag:=by rw[O] at b5;exact(f6 b5).symm
   have bo:=(mem_ready.1 a2).1;have cy:(U.after.any λe=>Region.binds .any e&&e.on==i)=false:=by
    rw[Array.any_eq_false];intro e he K;simp only[f5,rR] at K;have:=bn _ (Array.getElem_mem he) K.1;rw[K.2] at this;have Y:listed.getD i true=listed.getD i false∨listed.size<=i:=by
     rcases gD i listed.size with q | q;left;simp[gR,q];exact .inr q
    rcases Y with Y | Y;rw[bo,this] at Y;cases Y;rw[gR,qg Y] at this;simp at this
   have c0:oi.apart ops U=true:=by
    have ay:j<ops.size:=(f4.1 O).1;have:=qs.1 b0 j (qc.2 ay);simp only[rb,rR] at this;rcases this with(q | q) | q;exact absurd q ap;rw[ai] at q;cases q;rw[O] at q;simp only[rb] at q;rw[cy] at q;exact q.resolve_left (by simp)
   let⟨a1,a4,a5⟩:=Oper.apart_spec c0;let⟨p1,p2⟩:=IQ (ops:=ops) (T:=T) (v:=if w then v else undef) (aq j U O) a1
   first
    | exact absurd b4 (by rw[h.1];simp)
    | (
     rcases h with⟨c1,_⟩ | ⟨eb,_,h⟩
     ·
      exfalso
      have c2:¬j<m:=by
       intro ay
       have:=qs.1 c1 j (qc.2 ay)
       have e2:(Bm listed i).getD j false=listed.getD j false:=getD_set_ne false (qH ap)
       rw[e2] at this
       have Y:listed.getD j true=true:=by
        rcases gD j listed.size with q | q;simp[gR,q] at this ⊢;exact this;simp[gR,qg q] at this
       rw[ai] at Y;cases Y
      have ay:j<ops.size:=(f4.1 O).1
      have:=qs.1 cp j (qc.2 ay)
      simp only[rb,rt] at this
      have:=qs.1 (this.resolve_left c2) i (qc.2 co)
      rcases Tk b1 _ j U O (λe he hb=>bn e he hb) this with q | ⟨x,Z,ac⟩
      .have c3:i<listed.size:=by rw[av];exact(f4.1 hi).1
       simp[gR,c3] at q bo
       rw[bo] at q;cases q
      .have:¬x<listed.size:=by rw[av];intro K;simp[K] at Z
       simp[gR,this] at ac
     .let⟨hd,be,bi⟩:=h j b4 U O
      have a6:Bm (Bm listed i) j=Bm (Bm listed j) i:=by
       unfold Bm;exact td _ _ (qH ap)
      have a7:i∈Region.ready .any ops (Bm listed j):=ready_mono a2 (qH ap)
      have a8:JD ops (Bm listed j) i oi=true:=by
       refine qs.2 λx K=>?_
       have:=qs.1 b0 x K
       simp only[rb,rR] at this ⊢
       rcases this with(q | q) | q;exact .inl (.inl q)
       .left;right
        by_cases e:j=x;subst e;rw[ai] at q;cases q;rw[Bm,getD_set_ne true e];exact q
       .exact .inr q
      have a9:(Bm listed j).size=ops.size:=by unfold Bm;simpa using av
      have bb:Iv ops (Bm listed j)=true:=by
       refine qs.2 λx K=>?_
       cases bv:ops[x]? with
       | none=>simp
       | some c4=>
        simp only[rb,sR]
        by_cases e:j=x
        .subst e
         obtain rfl:c4=U:=by rw[O] at bv;exact(f6 bv).symm
         right
         refine sf.2 λe he=>?_
         cases hb:Region.binds .any e with
         | false=>simp
         | true=>
          have:=bn e he hb
          by_cases e2:j=e.on
          .rw [← e2] at this
           have bw:j<listed.size:=by rw[av];exact(f4.1 O).1
           simp[gR,bw] at this ai
           rw[ai] at this;cases this
          .rw [Bm,getD_set_ne false e2];simpa using this
        .cases b6:(Bm listed j).getD x false with
         | false=>exact .inl rfl
         | true=>
          right
          have c5:listed.getD x false=true:=by rw[Bm,getD_set_ne false e] at b6;exact b6
          refine sf.2 λbx he=>?_
          cases hb:Region.binds .any bx with
          | false=>simp
          | true=>
           have:=QP b1 bv c5 bx he hb
           by_cases e2:j=bx.on
           .rw [← e2] at this
            have bw:j<listed.size:=by rw[av];exact(f4.1 O).1
            simp[gR,bw] at this ai
            rw[ai] at this;cases this
           .rw [Bm,getD_set_ne false e2];simpa using this
      refine⟨hd,λc6=>?_,λc7=>?_⟩
      .have:=be (by rw[p2];exact c6)
       rw[a6,Kb a4] at this
       let⟨Z,ac⟩:=IQ (ops:=ops) (T:=T) (d:=U.dst) (v:=undef) (o:=oi) (aq i oi hi) a5
       exact a0 _ _ _ a8 bb a9 a7 a3 (by rw[ac];exact hw) (λal s' c8 bz=>by unfold Yl;rw[Z];exact(aw al s' c8 bz).out) this
      .have ca:=Qt _ (bi (by rw[p2];exact c7))
       rw[p1] at ca
       refine Es _ ca ?_ (λ_ _ h=>h)
       rintro b3 s' ⟨K,bz,c9⟩
       have cc:=Ty (D:=D) bz
       have ce:(Ct D s s').q=false:=by show s'.q=false;rw[c9];exact a3
       cases b3 with
       | value u=>
        simp only at K ⊢
        rw[a6,Kb a4] at K
        let⟨Z,ac⟩:=IQ (ops:=ops) (T:=T) (d:=U.dst) (v:=u) (o:=oi) (aq i oi hi) a5
        exact a0 _ _ _ a8 bb a9 a7 ce (by rw[ac];exact hw) (λal s2 az am=>by unfold Yl;rw[Z];exact(aw al s2 az (by rw[cc] at am;exact am)).out) K
       | skip=>
        simp only at K ⊢
        rw[a6,Kb a4] at K
        let⟨Z,ac⟩:=IQ (ops:=ops) (T:=T) (d:=U.dst) (v:=undef) (o:=oi) (aq i oi hi) a5
        exact a0 _ _ _ a8 bb a9 a7 ce (by rw[ac];exact hw) (λal s2 az am=>by unfold Yl;rw[Z];exact(aw al s2 az (by rw[cc] at am;exact am)).out) K
       | enter f args=>
        obtain⟨R,dd,dj⟩:=K
        refine⟨R,dd,λu ea hu=>?_⟩
        let⟨ci,r1,r2⟩:=dj u ea hu
        refine⟨ci,r1,?_⟩
        rw[a6,Kb a4] at r2
        let⟨Z,ac⟩:=IQ (ops:=ops) (T:=T) (d:=U.dst) (v:=u) (o:=oi) (aq i oi hi) a5
        exact a0 _ _ _ a8 bb a9 a7 ci (by rw[ac];exact hw) (λal s2 az am=>by unfold Yl;rw[Z];exact(aw al s2 az (λx o K=>am x o (r1 x o K))).out) r2
       | _=>exact K.elim)
end
section
variable (J:Judge P)(Q:Gs_)(b:Frame)(n:Nat)(ds:Ld_)(ops:Ao_)(k:Li_)(cs:Lf_)(m:Nat)(D:Nat->Bool)
def AZ(fuel:Nat)(listed:Array Bool)(L:Env)(s:St):Prop:=∀T,Has n L T->JA J Q b ds ops k cs m D fuel listed T s
end
def Ec:Nat->Bool:=λ_=>false
variable {D:Nat->Bool}{listed:Array Bool}
variable{tail:List Nat}
section
variable {b:Frame}{n m fuel:Nat}
theorem Rg(m:Nat)(D:Nat->Bool){id:Nat}(K:s.q=false)(hm:P.follows .mixedOrders=true)(O:(b.kind != .early)=true)(h:AZ J Q b n ds ops k cs m D ops.size (Array.replicate ops.size false) L s):JL J Q b n L ds (.code (.region id ops true)::k) cs s:=
 VB K hm λt T U=>aO (by simpa using O) ops.size t _ T s (h T U)
theorem ZS{i:Nat}{v:Value}(hi:ops[i]?=some oi)(U:decide (i<m)=true)(Y:EB ops m=true)(Z:Region.noSelect ops=true)(O:(!Ek oi.op)=true)(ac:JD ops listed i oi=true)(ag:Iv ops listed=true)(ai:(listed.size==ops.size)=true)(al:(Region.ready .any ops listed).contains i=true)(am:s.q=false)
  (hw:AY L ops oi=some true) (ap:Bu n oi.dst=true) (aq:∀ρ,Fa L ρ->∀s',s'.q=false->(∀x o,(BA D s).E x=some o->s'.E x=some o)->Yl P oi ρ s' v)
  (h:AZ J Q b n ds ops k cs m D fuel (Bm listed i) (AB L oi.dst v) s):AZ J Q b n ds ops k cs m D (fuel+1) listed L s:=λT K=>by
 refine JA.take (w:=true) (v:=v) hi (by simpa using U) Y Z (λc av=>by rw[av] at O;simp[Ek] at O) fuel listed T s ac ag (by simpa using ai) (by simpa using al) am (Cl K hw) (λ_ s' aw ay=>aq _ K.Gz s' aw ay) ?_
 exact h _ (K.put ap v)
theorem Zp{i:Nat}(hi:ops[i]?=some oi)(U:decide (i<m)=true)(Y:EB ops m=true)(Z:Region.noSelect ops=true)(K:(!Ek oi.op)=true)(ac:JD ops listed i oi=true)(ag:Iv ops listed=true)(ai:(listed.size==ops.size)=true)(al:(Region.ready .any ops listed).contains i=true)(am:s.q=false)
  (hw:AY L ops oi=some false) (ap:Bu n oi.dst=true)
  (h:AZ J Q b n ds ops k cs m D fuel (Bm listed i) (AB L oi.dst undef) s):AZ J Q b n ds ops k cs m D (fuel+1) listed L s:=λT O=>by
 refine JA.take (w:=false) (v:=undef) hi (by simpa using U) Y Z (λc aq=>by rw[aq] at K;simp[Ek] at K) fuel listed T s ac ag (by simpa using ai) (by simpa using al) am (Cl O hw) (λe=>by cases e) ?_
 exact h _ (O.put ap undef)
theorem UK(ai:s.q=false)(al:Region.ready .any ops listed≠ [])
  (h:∀i∈Region.ready .any ops listed,∀o,ops[i]?=some o->(!Ek o.op)=true/\Bu n o.dst=true/\∃w,AY L ops o=some w/\
   (w=false->AZ J Q b n ds ops k cs m D fuel (Bm listed i) (AB L o.dst undef) s)/\
   (w=true->∀ρ,Fa L ρ->lp P (execOp ρ o) (BA D s) (λac s'=>match ac with
    | .value v=>AZ J Q b n ds ops k cs m D fuel (Bm listed i) (AB L o.dst v) (Ct D s s')
    | .skip=>AZ J Q b n ds ops k cs m D fuel (Bm listed i) (AB L o.dst undef) (Ct D s s')
    | .enter f args=>∃R,Fc J f args (Ct D s s') R/\∀v K,R v K->K.q=false/\(∀x o,(BA D s).E x=some o->(BA D K).E x=some o)/\AZ J Q b n ds ops k cs m D fuel (Bm listed i) (AB L o.dst v) K
    | _=>False) (λ_ _=>False))):
  AZ J Q b n ds ops k cs m D (fuel+1) listed L s:=λT O=>by
 refine .inr ⟨al,ai,λi hi o am=>?_⟩
 let⟨ag,U,w,hw,ap,aq⟩:=h i hi o am
 have Y:=Cl O hw
 refine⟨λc av=>by rw[av] at ag;simp[Ek] at ag,λe=>?_,λe=>?_⟩
 .rw [e] at Y
  exact ap Y.symm _ (O.put U undef)
 .rw [e] at Y;refine Es _ (aq Y.symm _ O.Gz) ?_ (λ_ _ h=>h);intro ac s' Z;cases ac with
  | value v=>exact Z _ (O.put U v)
  | skip=>exact Z _ (O.put U undef)
  | enter f args=>
   obtain⟨R,aw,ay⟩:=Z;exact⟨R,aw,λv K az=>let ⟨a,b,c⟩:=ay v K az;⟨a,b,c _ (O.put U v)⟩⟩
  | _=>exact Z.elim
theorem AZ.one{i:Nat}{o:Oper}(ac:s.q=false)(Y:Region.ready .any ops listed=[i])(hi:ops[i]?=some o)(O:(!Ek o.op&&Bu n o.dst)=true)(hw:AY L ops o=some true)
  (h:∀ρ,Fa L ρ->lp P (execOp ρ o) (BA D s) (λag s'=>match ag with
    | .value v=>AZ J Q b n ds ops k cs m D fuel (Bm listed i) (AB L o.dst v) (Ct D s s')
    | .skip=>AZ J Q b n ds ops k cs m D fuel (Bm listed i) (AB L o.dst undef) (Ct D s s')
    | .enter f args=>∃R,Fc J f args (Ct D s s') R/\∀v K,R v K->K.q=false/\(∀x o,(BA D s).E x=some o->(BA D K).E x=some o)/\AZ J Q b n ds ops k cs m D fuel (Bm listed i) (AB L o.dst v) K
    | _=>False) (λ_ _=>False)):
  AZ J Q b n ds ops k cs m D (fuel+1) listed L s:=by
 simp only[f5] at O;refine UK ac (by rw[Y];simp) λj U o' Z=>?_;rw[Y] at U;simp at U;subst U;obtain rfl:o'=o:=by rw[hi] at Z;exact(f6 Z).symm
 exact⟨O.1,O.2,true,hw,λe=>(by cases e),λ_=>h⟩
theorem AZ.call{i:Nat}{d:Option Tmp}{f:FuncId}{args:Array Operand}{ty:TypeId}{p:String}{af:Ae_}{g:On_}(U:s.q=false)(Y:Region.ready .any ops listed=[i])
  (Z:ops[i]?=some ⟨d,.call ⟨.value (.func f),args,ats⟩,ty,p,af,g⟩) (ac:Bu n d=true) (hw:AY L ops ⟨d,.call ⟨.value (.func f),args,ats⟩,ty,p,af,g⟩=some true) (hb:Ei P f=true) (ag:evs L args.toList=some vs)
  (ai:Fc J f vs.toArray s R) (h:∀v K,R v K->K.q=false/\(∀x o,(BA D s).E x=some o->(BA D K).E x=some o)/\AZ J Q b n ds ops k cs m D fuel (Bm listed i) (AB L d v) K):
  AZ J Q b n ds ops k cs m D (fuel+1) listed L s:=by
 refine AZ.one U Y Z (by simp[Ek,ac]) hw λρ O=>?_;have al:args.map ρ=vs.toArray:=by
  rw[← Gv O ag];apply rl;simp
 have am:ρ (.func f)=.func (.func f) #[] #[]:=O _ _ V;simp only[execOp,resolve,bind,Sem.bind,Deferred.ofValue,am,pure,invoke];have e: #[]++args.map ρ++ #[]=vs.toArray:=by rw[al];simp
 rw[e];refine J5 hb ?_;rw[Mm];exact⟨R,ai,h⟩
theorem AZ.leaf(K:Sp m listed=true)(hgo:∀t,Region.linearise.go .any ops (fuel+1) t listed []=tail)(h:JL J Q b n L ds (.inRegion ops tail::k) cs s):AZ J Q b n ds ops k cs m D (fuel+1) listed L s:=λT O=>
 .inl ⟨K,λt=>by rw[hgo t];exact h T O⟩
theorem AZ.fin(K:Region.ready .any ops listed=[])(h:JL J Q b n L ds k cs s):AZ J Q b n ds ops k cs m D 0 listed L s:=λT O=>⟨K,JL.done h T O⟩
theorem iQ{listed:Array Bool}{i:Nat}(K:Region.ready .any ops listed=[i])(h:∀t,Region.linearise.go .any ops sz t (Bm listed i) []=tail)(t:Nat):Region.linearise.go .any ops (sz+1) t listed []=i::tail:=by
 simp only[Region.linearise.go];change (match(Region.ready .any ops listed)[t%(Region.ready .any ops listed).length]? with
  | some i=>Region.linearise.go .any ops sz (t/(Region.ready .any ops listed).length) (listed.setIfInBounds i true) [i]
  | none=>[].reverse)=_
 rw[K];simp only[ro,Nat.mod_one,ri];rw[linearise_go_acc];have:=h (t/1);unfold Bm at this;rw[this];rfl
theorem b7{i:Nat}{rest:List Nat}{d:Option Tmp}{f:FuncId}{args:Array Operand}{ty:TypeId}{p:String}{af:Ae_}{g:On_}
  (U:ops[i]?=some ⟨d,.call ⟨.value (.func f),args,ats⟩,ty,p,af,g⟩) (hw:AY L ops ⟨d,.call ⟨.value (.func f),args,ats⟩,ty,p,af,g⟩=some true) (K:((b.kind != .early)&&Bu n d)=true) (hb:Ei P f=true)
  (Y:evs L args.toList=some vs) (Z:Fc J f vs.toArray s R) (ac:∀v s',R v s'->JL J Q b n (AB L d v) ds (.inRegion ops rest::k) cs s'):
  JL J Q b n L ds (.inRegion ops (i::rest)::k) cs s:=λT O=>by
 simp only[f5] at K
 have ag:args.map (BK T)=vs.toArray:=by
  rw[← Gv O.Gz Y];apply rl;simp
 refine Judge.oper U (Cl O hw) (by simpa using K.1) (.inr λc ai=>by cases ai) ?_;have hd:lp P (execOp (BK T) ⟨d,.call ⟨.value (.func f),args,ats⟩,ty,p,af,g⟩) s (upon J Q b T ds ops i rest k cs d) (MH J Q b T ds ops i rest k cs):=by
  simp only[execOp,resolve,bind,Sem.bind,Deferred.ofValue,BK,pure,invoke];have e: #[]++args.map (BK T)++ #[]=vs.toArray:=by rw[ag];simp
  rw[e];refine J5 hb (Z Q _ cs λv s' al=>?_);rw[G9 (o:=⟨d,.call ⟨.value (.func f),args,ats⟩,ty,p,af,g⟩) _ _ _ _ _ U];exact ac v s' al _ (O.put K.2 v)
 exact hd
theorem Fc.enter{f:FuncId}{c:Code}(Y:P.funcs[f]?=some fn)(hb:fn.body=some c)(ai:vs.length<=fn.ntmps)
  (h:∀(Q:Gs_) (K:Frame) (cs:Lf_),(∀v s',R v s'->J.ok Q (G (K.finish v) cs) s')->JL J Q (base f) fn.ntmps (GR 0 vs) [] [.code c] (K::cs) s):Fc J f vs.toArray s R:=λQ K cs Z=>by
 have he:Frame.enter P f vs.toArray .normal=fr (base f) (vs.toArray++Array.replicate (fn.ntmps - vs.length) undef) [] [.code c]:=by
  simp[Frame.enter,fr,Y,hb,base];rfl
 rw[he];refine h Q K cs Z _ ⟨by simp;omega,λt v ac=>?_⟩;let⟨_,O⟩:=KI ac;have ag:t<vs.length:=by
  rcases gD t vs.length with U | U;exact U;simp at O;have:=(d0.1 O).1;omega
 rw[gR,rh (by simpa using ag)];simp at O;simp[O]
end
variable {E':LH}{B0:List (Nat×Obj)}
variable{blk:List (Nat×Obj)}
section
variable {b:Frame}{n:Nat}
theorem Vg(O:s.q=false)(h:(∃w,Fits s w)->JL J Q b n L ds k cs s):JL J Q b n L ds k cs s:=λT U=>by
 by_cases K:∃w,Fits s w;exact h K T U;exact J.step ⟨V,λw f=>absurd ⟨w,f⟩ K,λe=>by subst e;cases O⟩
theorem TB{x:Nat}:∀{B:List (Nat×Obj)},(∃p∈B,p.1=x)->Bg B H x≠none
 | [],⟨p,K,_⟩=>by cases K
 | (c,o)::B,⟨p,K,e⟩=>by
  simp only[Bg]
  split;simp;rename_i O;rcases gv.1 K with q | q;subst q;exact absurd e.symm O;exact TB ⟨p,q,e⟩
theorem Nd.grow(U:Nd E H B)(hd:∀x,E' x≠none->Bg B H x=none):Nd E' H B:=by
 have key:∀{C:List (Nat×Obj)},Nd E H C->(∀p∈C,p∈B)->Nd E' H C:=by
  intro C
  induction C with
  | nil=>intro _ _;trivial
  | cons p C Y=>
   obtain⟨c,o⟩:=p;intro hC O;refine⟨?_,hC.2.1,hC.2.2.1,Y hC.2.2.2 λp K=>O p (f8 _ K)⟩;cases Z:E' c with
   | none=>rfl
   | some u=>exact absurd (hd c (by rw[Z];simp)) (TB ⟨(c,o),O _ (by simp),rfl⟩)
 exact key U λp K=>K
def Qw(E:LH)(sz:Nat)(v:Value)(n:Nat)(xs:Lv_):Prop:=
 ∃a c,v=.slice a n c/\n<=c/\xs.length=n*sz/\(n=0∨∃bk off f e fr,a=some ⟨bk,off,none⟩/\E bk=some (.cells f e fr)/\∀j w,xs[j]?=some w->f[off+j]?=some w)
theorem Qw.nil:Qw E sz (.slice none 0 0) 0 []:=⟨none,0,V,oU _,by simp,.inl V⟩
def GS(e:TypeId)(sz:Nat)(a:Option Addr)(l c:Nat)(blk:List (Nat×Obj))(xs:Lv_):Prop:=
 (a=none/\l=0/\c=0/\blk=[]/\xs=[])∨∃bk f,a=some ⟨bk,0,none⟩/\blk=[(bk,.cells f e (0,0))]/\f.size=c*sz/\l<=c/\xs=f.toList.take (l*sz)
theorem GS.nil{e:TypeId}:GS e sz none 0 0 [] []:=.inl ⟨V,V,V,V,V⟩
theorem GS.length{e:TypeId}{a:Option Addr}{c:Nat}(h:GS e sz a l c blk xs):xs.length=l*sz:=by
 rcases h with⟨_,rfl,_,_,rfl⟩ | ⟨bk,f,_,_,K,O,rfl⟩;simp;have:l*sz<=c*sz:=qR _ O;simp[K,sk this]
theorem XJ{t e:TypeId}{v:Value}{Q:Value->St->Prop}{z:Value}(O:P.underlying t=some (.slice e))(U:Bz P e=some v.cells.size)(Y:zeroOf P e=some z)(al:z.cells.size=v.cells.size)(am:0<v.cells.size)(ap:v.cells.size<=64)
  (Z:Nd E H B) (k:∀r,Nd E H (B++ [(r,.cells v.cells e (0,0))])->Q (.slice (some ⟨r,0,none⟩) 1 1) (mk E H (B++ [(r,.cells v.cells e (0,0))]))):lp P (Instr.buildSlice t 1 #[(0,v)]) (mk E H B) Q X:=by
 unfold Instr.buildSlice;refine AA _ _ (CE O ?_);refine AA _ _ (FA U ?_);rw[d9 (by omega),d9 (by omega)];refine AA (x:=zeroValue e) _ (Ik Y ?_);have ac:Instr.fill (λi=>some (i*v.cells.size,v.cells.size)) ((Array.range (1*v.cells.size)).map λi=>z.cells[i%z.cells.size]!) [(0,v)]=some v.cells:=by
  simp only[Instr.fill,Array.size_map,Array.size_range,Nat.one_mul,se];rw[d9 (by simp)];congr 1;apply q8;intro j;have key:∀(l:Lv_) (st:Nat) (c:Av_),st+l.length<=c.size->∀j,(List.foldl (λcs (p:Value×Nat)=>cs.setIfInBounds (0+p.2) p.1) c (l.zipIdx st))[j]?=if st<=j/\j<st+l.length then l[j - st]? else c[j]? :=by
   intro l
   induction l with
   | nil=>intro st c _ j;simp;omega
   | cons x l ag=>
    intro st c aq j;simp only[tU,rv,qz] at*;rw[ag (st+1) _ (by simp;omega) j];simp only[rO];by_cases ai:j=st;subst ai;rw[d9 (by omega),d7 (by omega)];rw[tf,ri,pn (by omega)]
    .by_cases e2:st+1<=j/\j<st+1+l.length
     .rw [d7 e2,d7 (by omega)];have:j - st=(j - (st+1))+1:=by omega
      rw[this];simp
     .rw [d9 e2,d9 (by omega),mt (by omega)]
  have:=key v.cells.toList 0 ((Array.range v.cells.size).map λi=>z.cells[i%z.cells.size]!) (by simp) j;rw[← Array.foldl_toList,Array.toList_zipIdx,this];by_cases K:j<v.cells.size;simp[K];simp[K]
 rw[IN];simp only[ac];exact AA _ _ (Ka Z k)
end
variable{d1:Tmp}{t1:TypeId}
section
variable {b:Frame}{n:Nat}
theorem M7{ρ:Operand->Value}{d:Option Tmp}{x y:Operand}{ty:TypeId}{p:String}{af:Ae_}{g:On_}:
  execOp ρ ⟨d,.call ⟨.builtin .append,#[x,y],ats⟩,ty,p,af,g⟩=(do pure (Next.value (← Builtin.append_ ats ty #[ρ x,ρ y]))):=by
 simp[execOp,resolve,invoke,builtin,bind,Sem.bind,pure]
theorem XP{ρ:Operand->Value}{d:Option Tmp}{y:Operand}{t ty:TypeId}{p:String}{af:Ae_}{g:On_}:
  execOp ρ ⟨d,.buildSlice t 1 #[(0,y)],ty,p,af,g⟩=(do pure (Next.value (← Instr.buildSlice t 1 #[(0,ρ y)]))):=by
 simp[execOp]
theorem gF{L:Env}{w:Value}:ev (AB L (some d1) w) (.tmp d1)=some w:=by
 simp[AB,ev,look]
theorem HO(l r:List α)(x y:α):(l++x::r).set l.length y=l++y::r:=by simp
theorem KH{e t:TypeId}{am c m:Nat}{a:Option Addr}{i:Nat}{rest:List Nat}{d:Option Tmp}{x y:Operand}{ty:TypeId}{p:String}{af:Ae_}{g:On_}{z:Value}{B1:List (Nat×Obj)}
  (a3:ops[i]?=some ⟨d,.call ⟨.builtin .append,#[x,y],ats⟩,ty,p,af,g⟩) (hw:AY L ops ⟨d,.call ⟨.builtin .append,#[x,y],ats⟩,ty,p,af,g⟩=some true) (a4:BX b n ⟨d,.call ⟨.builtin .append,#[x,y],ats⟩,ty,p,af,g⟩=true)
  (a5:ev L x=some (.slice a l c)) (a6:ev L y=some (.slice ax m cx)) (a7:ats[0]?=some t) (a8:ats[1]?=some t1) (a9:P.underlying t=some (.slice e)) (bb:P.underlying t1=some (.slice e)) (be:Bz P e=some sz) (hb:F6 P e=some am) (bi:zeroOf P e=some z) (bn:z.cells.size=sz)
  (bo:0<am) (bv:am<=64) (b6:0<m) (bw:l+m<=2^40) (bx:∀w∈ys,CM w=true) (ap:GS e sz a l c blk xs) (bz:Nd E H (B0++blk++B1)) (b0:IA (mk E H (B0++blk++B1)) (.slice ax m cx) sz ys)
  (h:∀a1 ac aq,GS e sz a1 (l+m) ac aq (xs++ys)->Nd E H (B0++aq)->JL J Q b n (AB L d (.slice a1 (l+m) ac)) ds (.inRegion ops rest::k) cs (mk E H (B0++aq))):
  JL J Q b n L ds (.inRegion ops (i::rest)::k) cs (mk E H (B0++blk++B1)):=by
 refine JL.op a3 hw a4 λρ a2=>?_;rw[M7,a2 x _ a5,a2 y _ a6];have b1:Qj (B0++blk++B1) B0.length e sz a l c xs:=by
  rcases ap with⟨O,Z,ag,av,ai⟩ | ⟨bk,f,O,Z,ag,av,ai⟩;exact .inl ⟨O,Z,ag,ai⟩;refine .inr ⟨bk,f,O,?_,ag,av,ai⟩;subst Z;simp
 have hlen:=ap.length;refine AA _ _ (Q6 (pl:=B0.length) a7 a8 bb a9 be hb bi bn bz b1 b0 bx bo bw bv ?_ ?_ ?_)
 ·
  intro bk f K al ca cc b2 aw ay Y;rcases ap with⟨O,_⟩ | ⟨U,f0,O,Z,ag,av,ai⟩;rw[O] at al;cases al
  .subst Z;have b3:U=bk:=by rw[O] at al;simpa using al
   subst b3;have b4:(B0++ [(U,Obj.cells f0 e (0,0))]++B1).set B0.length (U,.cells K e (0,0))=B0++ [(U,.cells K e (0,0))]++B1:=by
    rw[pE,pE];exact HO _ _ _ _
   rw[b4] at Y ⊢;have az:Nd E H (B0++ [(U,.cells K e (0,0))]):=Nd.left Y;refine JL.drop (B0++ [(U,.cells K e (0,0))]) (λp a0=>?_) Y (h a c _ (.inr ⟨U,K,O,V,aw,b2,ay.symm⟩) az);exact qF.1 (qZ _ a0)
 .intro _ hm;omega
 ·
  intro r K ac b5 aw ay Y;have az:Nd E H (B0++ [(r,.cells K e (0,0))]):=Nd.pick Y;refine JL.drop (B0++ [(r,.cells K e (0,0))]) (λp a0=>?_) Y (h (some ⟨r,0,none⟩) ac _ (.inr ⟨r,K,V,V,aw,b5,ay.symm⟩) az);refine qF.1 ?_;rcases gM.1 a0 with q | q;simp[q];exact qG _ q
 where
  Nd.left {E H : LH}{A C : List (Nat × Obj)}(h : Nd E H (A ++ C)) : Nd E H A :=by
    induction A with
    | nil =>trivial
    | cons p A ih =>
      obtain ⟨c, o⟩ :=p
      obtain ⟨h1, h2, h3, h4⟩ :=h
      exact ⟨h1, h2, λq hq =>h3 q (qZ _ hq), ih h4⟩
  Nd.pick {E H : LH}{A C F : List (Nat × Obj)}{x : Nat × Obj}(h : Nd E H (A ++ C ++ F ++ [x])) : Nd E H (A ++ [x]) :=by
    induction A with
    | nil =>
      have : ∀ (D : List (Nat × Obj)), Nd E H (D ++ [x]) -> Nd E H [x] :=by
        intro D
        induction D with
        | nil =>exact λh =>h
        | cons p D ih =>obtain ⟨c, o⟩ :=p; exact λh =>ih h.2.2.2
      exact this _ h
    | cons p A ih =>
      obtain ⟨c, o⟩ :=p
      obtain ⟨h1, h2, h3, h4⟩ :=h
      refine ⟨h1, h2, λq hq =>h3 q ?_, ih h4⟩
      rcases gM.1 hq with hq | hq
      . simp[hq]
      . exact qG _ hq
theorem Zm{e:TypeId}{v:Value}{A:List (Nat×Obj)}(K:v.cells.size=sz)(O:Nd E H (A++ [(r,.cells v.cells e (0,0))])):
  IA (mk E H (A++ [(r,.cells v.cells e (0,0))])) (.slice (some ⟨r,0,none⟩) 1 1) sz v.cells.toList:=by
 refine⟨.inl V,by simp[K],oU _,λj w U=>?_⟩;simp only[rO];refine Uk (i:=A.length) O (c:=v.cells) (e:=e) (f:=(0,0)) (by simp) ?_;simpa using U
theorem YG{e t t2:TypeId}{id c:Nat}{a:Option Addr}{i ag:Nat}{rest:List Nat}{d:Option Tmp}{x y:Operand}{ty O:TypeId}{p U:String}{af Y:Ae_}{g g':On_}{z v:Value}
  (aw:ops[i]?=some ⟨some d1,.buildSlice t2 1 #[(0,y)],O,U,Y,g'⟩) (hw:AY L ops ⟨some d1,.buildSlice t2 1 #[(0,y)],O,U,Y,g'⟩=some true) (ay:BX b n ⟨some d1,.buildSlice t2 1 #[(0,y)],O,U,Y,g'⟩=true)
  (az:ops[ag]?=some ⟨d,.call ⟨.builtin .append,#[x,.tmp d1],ats⟩,ty,p,af,g⟩) (a0:∀w,AY (AB L (some d1) w) ops ⟨d,.call ⟨.builtin .append,#[x,.tmp d1],ats⟩,ty,p,af,g⟩=some true) (a1:BX b n ⟨d,.call ⟨.builtin .append,#[x,.tmp d1],ats⟩,ty,p,af,g⟩=true)
  (a2:∀w,ev (AB L (some d1) w) x=some (.slice a l c)) (a3:ev L y=some v) (a4:ats[0]?=some t) (a5:ats[1]?=some t1) (a6:P.underlying t=some (.slice e)) (a7:P.underlying t1=some (.slice e)) (a8:P.underlying t2=some (.slice e)) (ai:Bz P e=some sz) (hb:F6 P e=some id) (al:zeroOf P e=some z) (am:z.cells.size=sz)
  (a9:0<id) (bb:id<=64) (Z:v.cells.size=sz) (bw:0<sz) (bx:sz<=64) (be:l+1<=2^40) (bi:∀w∈v.cells.toList,CM w=true) (bn:GS e sz a l c blk xs) (bo:Nd E H (B0++blk))
  (h:∀w ap aq ac,GS e sz ap (l+1) aq ac (xs++v.cells.toList)->Nd E H (B0++ac)->JL J Q b n (AB (AB L (some d1) w) d (.slice ap (l+1) aq)) ds (.inRegion ops rest::k) cs (mk E H (B0++ac))):
  JL J Q b n L ds (.inRegion ops (i::ag::rest)::k) cs (mk E H (B0++blk)):=by
 refine JL.op aw hw ay λρ bv=>?_;rw[XP,bv y _ a3];refine AA _ _ (XJ (z:=z) (v:=v) a8 (by rw[Z];exact ai) al (by rw[Z];exact am) (by omega) (by omega) bo λr av=>?_);refine KH (B1:=[(r,.cells v.cells e (0,0))]) (m:=1) (cx:=1) (ax:=some ⟨r,0,none⟩) (y:=.tmp d1) (x:=x) (ys:=v.cells.toList) (l:=l) (c:=c) (a:=a) (blk:=blk) (xs:=xs) az (a0 _) a1 (a2 _) gF a4 a5 a6 a7 ai hb al am a9 bb (by omega) be bi bn av ?_ (h _);exact Zm Z av
theorem Yb{e:TypeId}{c:Nat}{a:Option Addr}(Z:GS e sz a l c blk xs)(O:Nd E H (B0++blk))
  (h:∀E',Le E E'->Qw E' sz (.slice a l c) l xs->Nd E' H B0->JL J Q b n L ds todo cs (mk E' H B0)):JL J Q b n L ds todo cs (mk E H (B0++blk)):=by
 rcases Z with⟨rfl,rfl,rfl,rfl,rfl⟩ | ⟨bk,f,rfl,rfl,ac,U,rfl⟩;simp only[qk] at O ⊢;exact h E (Le.refl _) .nil O
 .have ag:(B0++ [(bk,Obj.cells f e (0,0))])[B0.length]?=some (bk,Obj.cells f e (0,0)):=by simp
  refine JL.freeze B0.length O ag λE' hle ai Y=>?_;have al:(B0++ [(bk,Obj.cells f e (0,0))]).eraseIdx B0.length=B0:=by rw[rQ (oU _)];simp
  rw[al] at Y ⊢;refine h E' hle ⟨_,c,V,U,?_,.inr ⟨bk,0,f,e,(0,0),V,ai,λj w K=>?_⟩⟩ Y;have:l*sz<=c*sz:=qR _ U;simp[ac,sk this];rw[rq] at K;split at K;simpa using K;cases K
end
abbrev iV(n:Int):Value:=.int .i64 n
variable {c:Nat}
section
variable {x:Operand}{a:Nat}
end
variable{K:TypeInfo}
theorem Ry{P:Program}{t:TypeId}(h:P.types[t]?=some K):P.info? t=some K:=by
 have:=(f4.1 h).1;unfold Tables.info?;rw[d7 this,h]
theorem A2{P:Program}{t:TypeId}(h:P.types[t]?=some K):Bz P t=some K.size:=by simp[Bz,Ry h]
theorem Dv{P:Program}{t:TypeId}(h:P.types[t]?=some K):F6 P t=some K.bytes:=by simp[F6,Ry h]
theorem DJ{P:Program}{t:TypeId}(h:P.types[t]?=some K):zeroOf P t=K.zero:=by simp[zeroOf,Ry h]
def fa:TypeDesc->Bool | .struct _=>true | .array _ _=>true | _=>false
theorem CL{P:Program}{t:TypeId}{d:TypeDesc}(h:P.underlying t=some d):DY P t=some (fa d):=by
 unfold DY;rw[h];cases d<;>rfl
theorem A8{P:Program}{f:FuncId}(h:P.funcs[f]?=some fn)(hb:(!(fn.name== "runtime.NumGoroutine")&&fn.body.isSome)=true):Ei P f=true:=by
 simp only[Ei,h];exact hb
def Wk(a:Nat):Nat->List Nat
 | 0=>[]
 | n+1=>Wk a n++(if a.testBit n then [n] else [])
abbrev Xk(a:Nat):List Nat:=Wk a 16
end Pal
namespace Pal
open Go Go.Conc
def At(E:LH)(bk o:Nat)(ws:Lv_):Prop:=∃f e fr,E bk=some (.cells f e fr)/\∀j w,ws[j]?=some w->f[o+j]?=some w
theorem At.Ah{E E':LH}{bk o:Nat}{ws:Lv_}(h:At E bk o ws)(hle:Le E E'):At E' bk o ws:=let ⟨f,e,fr,K,O⟩:=h;⟨f,e,fr,hle _ _ K,O⟩
variable{j:Nat}{w:Value}
theorem At.cell{E H:LH}{B:List (Nat×Obj)}{bk o:Nat}{ws:Lv_}(h:At E bk o ws)(K:ws[j]?=some w):(mk E H B).cell? ⟨bk,o+j,none⟩=some w:=
 let ⟨_,_,_,O,U⟩:=h;YV O (U j w K)
theorem At.cells{E H:LH}{B:List (Nat×Obj)}{bk o:Nat}{ws:Lv_}(h:At E bk o ws):∀j v,ws[j]?=some v->(mk E H B).cell? (Addr.add ⟨bk,o,none⟩ j)=some v:=λj v K=>by
 rw[Et rfl];exact h.cell K
variable {P:Program}{J:Judge P}{Q:Gs_}{ds:Ld_}{ops:Ao_}{k:Li_}{cs:Lf_}{L:Env}{s:St}{E E' H:LH}{B B0:List (Nat×Obj)}
variable {d:Option Tmp}{y:Operand}{t u ty e:TypeId}{p:String}{af:Ae_}{g:On_}{rest:List Nat}{kd:IntKind}
section
variable {b:Frame}{n:Nat}
variable {x:Operand}{v:Value}{i:Nat}
theorem JL.put(h:look L i=some v)(O:JL J Q b n (AB L (some i) v) ds k cs s):JL J Q b n L ds k cs s:=λT K=>
 O T ⟨K.size,λt w e=>by
  simp only[AB,look] at e
  split at e;rename_i U;subst U;cases e;exact K.at_ _ _ h
  .exact K.at_ _ _ e⟩
theorem Nh{q:Prop} [Decidable q] (h:look L i=some (.bool (decide q)))(O:q->JL J Q b n (AB L (some i) (.bool true)) ds k cs s)(U:¬q->JL J Q b n (AB L (some i) (.bool false)) ds k cs s):JL J Q b n L ds k cs s:=by
 by_cases K:q;refine JL.put (i:=i) (v:=.bool true) ?_ (O K);rw[h,rg K];refine JL.put (i:=i) (v:=.bool false) ?_ (U K);rw[h,qQ K]
theorem Ls{c:Bool}(h:look L i=some (.bool c))(K:c=true->JL J Q b n (AB L (some i) (.bool true)) ds k cs s)(O:c=false->JL J Q b n (AB L (some i) (.bool false)) ds k cs s):JL J Q b n L ds k cs s:=by
 cases c;exact JL.put h (O V);exact JL.put h (K V)
end
theorem Hc{P:Program}{s:St}{ρ:Operand->Value}{d:Option Tmp}{t ty ft:TypeId}{x:Operand}{p:String}{af:Ae_}{g:On_}{a:Addr}{O:Array Field}{i:Nat}{K:Field}(sz off:Nat)(U:P.underlying t=some (.struct O))(Y:Bz P ft=some (sz+1))(hi:O[i]?=some K)(Z:K.type=ft)(ac:K.offset=off)(ag:ρ x=.pointer (some a)):
  Yl P ⟨d,.fieldAddr t x i,ty,p,af,g⟩ ρ s (.pointer (some (a.add off))):=by
 subst Z ac;exact Yl.fieldAddr U hi Y ag
section
variable {b:Frame}{n:Nat}
variable {x:Operand}{v:Value}{i:Nat}
theorem At.JF{bk o:Nat}{ws:Lv_}(h:At E bk o ws)(K:∀x o,E x=some o->s.E x=some o)(O:ws[j]?=some w):s.cell? ⟨bk,o+j,none⟩=some w:=by
 obtain⟨f,e,fr,U,Y⟩:=h;unfold St.cell? St.get;rw[K _ _ U];exact Y j w O
theorem At.R2{bk o:Nat}{ws:Lv_}(h:At E bk o ws)(K:∀x o,E x=some o->s.E x=some o):∀j v,ws[j]?=some v->s.cell? (Addr.add ⟨bk,o,none⟩ j)=some v:=λj v O=>by
 rw[Et rfl];exact h.JF K O
end
variable {listed:Array Bool}
section
variable {b:Frame}{n m fuel:Nat}
variable {x:Operand}{v:Value}{i:Nat}
end
variable {D:Nat->Bool}
section
variable {b:Frame}{n m fuel i:Nat}{v:Value}
theorem AZ.put(h:look L i=some v)(O:AZ J Q b n ds ops k cs m D fuel listed (AB L (some i) v) s):AZ J Q b n ds ops k cs m D fuel listed L s:=λT K=>
 O T ⟨K.size,λt w e=>by
  simp only[AB,look] at e
  split at e;rename_i U;subst U;cases e;exact K.at_ _ _ h
  .exact K.at_ _ _ e⟩
theorem GL{q:Prop} [Decidable q] (h:look L i=some (.bool (decide q)))(O:q->AZ J Q b n ds ops k cs m D fuel listed (AB L (some i) (.bool true)) s)(U:¬q->AZ J Q b n ds ops k cs m D fuel listed (AB L (some i) (.bool false)) s):AZ J Q b n ds ops k cs m D fuel listed L s:=by
 by_cases K:q;refine AZ.put (i:=i) (v:=.bool true) ?_ (O K);rw[h,rg K];refine AZ.put (i:=i) (v:=.bool false) ?_ (U K);rw[h,qQ K]
end
structure Rp (α:Type) where
 n:Nat
 r:LH->Lv_->α->Prop
 Ah:∀{E E':LH}{ws:Lv_}{x:α},Le E E'->r E ws x->r E' ws x
 len:∀{E:LH}{ws:Lv_}{x:α},r E ws x->ws.length=n
 one:∀{E:LH}{ws:Lv_}{x:α},r E ws x->∀w∈ws,CM w=true
def rK(kd:IntKind):Rp Int:=⟨1,λ_ ws x=>ws=[.int kd x],λ_ h=>h,λh=>by subst h;rfl,λh w hw=>by subst h;simp at hw;subst hw;rfl⟩
abbrev rI:Rp Int:=rK .i64
def rN(kd:IntKind):Rp Nat:=⟨1,λ_ ws x=>ws=[.int kd ((x:Nat):Int)],λ_ h=>h,λh=>by subst h;rfl,λh w hw=>by subst h;simp at hw;subst hw;rfl⟩
def rB:Rp Bool:=⟨1,λ_ ws x=>ws=[.bool x],λ_ h=>h,λh=>by subst h;rfl,λh w hw=>by subst h;simp at hw;subst hw;rfl⟩
def rP{α β:Type}(p:Rp α)(q:Rp β):Rp (α×β):=⟨p.n+q.n,λE ws x=>∃U Y,ws=U++Y/\p.r E U x.1/\q.r E Y x.2,
 λhle ⟨a,b,h,K,O⟩=>⟨a,b,h,p.Ah hle K,q.Ah hle O⟩,λ⟨a,b,h,K,O⟩=>by subst h;rw[pJ,p.len K,q.len O],
 λ⟨a,b,h,K,O⟩ w hw=>by
  subst h
  rcases gM.1 hw with hw | hw
  .exact p.one K w hw
  .exact q.one O w hw⟩
def Ao{α:Type}(p:Rp α)(E:LH)(a:Option Addr)(c:Nat)(xs:List α):Prop:=
 xs.length<=c/\((xs=[]/\∀ad:Addr,a=some ad->ad.spot=none∨c=0)∨∃bk off,a=some ⟨bk,off,none⟩/\∀(i:Nat) x,xs[i]?=some x->∃ws,p.r E ws x/\At E bk (off+i*p.n) ws)
variable{α:Type}{c:Nat}
theorem Ao.Ah{p:Rp α}{E E':LH}{a:Option Addr}{xs:List α}(h:Ao p E a c xs)(hle:Le E E'):Ao p E' a c xs:=
 ⟨h.1,h.2.imp id λ⟨bk,off,K,O⟩=>⟨bk,off,K,λi x U=>let ⟨ws,Y,Z⟩:=O i x U;⟨ws,p.Ah hle Y,Z.Ah hle⟩⟩⟩
theorem Ao.nil{p:Rp α}{E:LH}:Ao p E none c []:=⟨qV _,.inl ⟨V,λ_ h=>by cases h⟩⟩
def rL{α:Type}(p:Rp α):Rp (List α):=⟨1,λE ws xs=>∃a c,ws=[.slice a xs.length c]/\Ao p E a c xs,
 λhle ⟨a,c,h,K⟩=>⟨a,c,h,K.Ah hle⟩,λ⟨a,c,h,K⟩=>by subst h;rfl,λ⟨a,c,h,K⟩ w hw=>by subst h;simp at hw;subst hw;rfl⟩
def rV:Rp Value:=⟨1,λ_ ws x=>ws=[x]/\CM x=true,λ_ h=>h,λh=>by rw[h.1];rfl,λh w hw=>by rw[h.1] at hw;simp at hw;subst hw;exact h.2⟩
def rA{α:Type}(k:Nat)(p:Rp α):Rp (List α):=⟨k*p.n,λE ws xs=>xs.length=k/\∃wss:List (Lv_),ws=wss.flatten/\wss.length=k/\∀(i:Nat) x us,xs[i]?=some x->wss[i]?=some us->p.r E us x,
 λhle ⟨U,wss,h,K,O⟩=>⟨U,wss,h,K,λi x us a b=>p.Ah hle (O i x us a b)⟩,
 λ{E ws xs} ⟨U,wss,h,K,O⟩=>by
  subst h
  have:∀(wss:List (Lv_)) (xs:List α),xs.length=wss.length->(∀(i:Nat) x us,xs[i]?=some x->wss[i]?=some us->p.r E us x)->wss.flatten.length=wss.length*p.n:=by
   intro wss
   induction wss with
   | nil=>intro xs _ _;simp
   | cons us wss Z=>
    intro xs Y h
    cases xs with
    | nil=>simp at Y
    | cons x xs=>
     rw[qC,pJ,p.len (h 0 x us rfl rfl),Z xs (by simpa using Y) (λi y u a b=>h (i+1) y u a b),qz,rf,tV]
  rw[this wss xs (by omega) O,K],
 λ{E ws xs} ⟨U,wss,h,K,O⟩ w hw=>by
  subst h
  let⟨us,ac,hw⟩:=sa.1 hw
  let⟨i,hi⟩:=qF.1 ac
  have ag:i<xs.length:=by rw[U,← K];exact(d0.1 hi).1
  exact p.one (O i _ us (d6 ag) hi) w hw⟩
def ix{α:Type}(xs:List α)(i:Int):Option α:=if 0<=i then xs[i.toNat]? else none
theorem Gj{xs:List α}{i:Int}{x:α}(h:ix xs i=some x):∃m:Nat,i=m/\xs[m]?=some x:=by
 unfold ix at h;split at h;exact⟨i.toNat,by omega,h⟩;cases h
def Av(x:Int):Option Int:=if -9223372036854775808<=x/\x<=9223372036854775807 then some x else none
theorem Mk{x y:Int}(h:Av x=some y):y=x/\ -9223372036854775808<=x/\x<=9223372036854775807:=by
 unfold Av at h;split at h;rename_i hb;exact⟨(f6 h).symm,hb⟩;cases h
variable{β:Type}
theorem bind_some{o:Option α}{f:α->Option β}{r:β}(h:o.bind f=some r):∃x,o=some x/\f x=some r:=by
 cases o with
 | none=>cases h
 | some x=>exact⟨x,rfl,h⟩
inductive Bt (S A:Type) where
 | more (s:S)
 | done (a:A)
def iter{S A:Type}(body:S->Option (Bt S A)):Nat->S->Option A
 | 0,_=>none
 | f+1,s=>match body s with
  | none=>none
  | some (.done a)=>some a
  | some (.more s')=>iter body f s'
variable{A:Type}
theorem T1{S:Type}{body:S->Option (Bt S A)}{f:Nat}{s:S}{a:A}(h:iter body (f+1) s=some a):∃st,body s=some st:=by
 simp only[iter] at h;cases hb:body s with
 | none=>rw[hb] at h;cases h
 | some st=>exact⟨st,rfl⟩
theorem TQ{S:Type}{body:S->Option (Bt S A)}{f:Nat}{s:S}{a K:A}(h:iter body (f+1) s=some a)(hb:body s=some (.done K)):K=a:=by
 simp only[iter,hb] at h;exact f6 h
theorem T2{S:Type}{body:S->Option (Bt S A)}{f:Nat}{s s':S}{a:A}(h:iter body (f+1) s=some a)(hb:body s=some (.more s')):iter body f s'=some a:=by
 simp only[iter,hb] at h;exact h
abbrev Seg:=List (Nat×Obj)
def Ak(E H:LH)(S:List Seg):St:=mk E H S.flatten
def Au(E H:LH)(S:List Seg):Prop:=Nd E H S.flatten
theorem Nd.mem{E H:LH}:∀{B:List (Nat×Obj)}{b:Nat}{o:Obj},Nd E H B->(b,o)∈B->∃i:Nat,B[i]?=some (b,o):=λ_ h=>qF.1 h
theorem Nd.iff{E H:LH}:∀{B:List (Nat×Obj)},Nd E H B↔(B.map (·.1)).Nodup/\∀p∈B,E p.1=none/\H p.1=none
 | []=>by simp[Nd]
 | (b,o)::B=>by
  simp only[Nd,q7,sM,gv,forall_eq_or_imp,Nd.iff (B:=B),qK,not_exists,not_and]
  constructor;rintro⟨K,O,U,Y,Z⟩;exact⟨⟨U,Y⟩,⟨K,O⟩,Z⟩;rintro⟨⟨U,Y⟩,⟨K,O⟩,Z⟩;exact⟨K,O,U,Y,Z⟩
variable{B':List (Nat×Obj)}
theorem Nd.perm{E H:LH}{B:List (Nat×Obj)}(h:Nd E H B)(K:B.Perm B'):Nd E H B':=by
 rw[Nd.iff] at h ⊢;exact⟨(K.map _).nodup_iff.1 h.1,λp O=>h.2 p (K.mem_iff.2 O)⟩
theorem Nb{E H:LH}{B:List (Nat×Obj)}(h:Nd E H B)(K:B.Perm B'):Bg B H=Bg B' H:=by
 funext x;by_cases O:∃p∈B,p.1=x;obtain⟨⟨b,o⟩,hm,rfl⟩:=O;let⟨i,hi⟩:=h.mem hm;let⟨j,U⟩:=(h.perm K).mem (K.mem_iff.1 hm);rw[Kd h hi,Kd (h.perm K) U]
 .have key:∀{C:List (Nat×Obj)},(∀p∈C,p.1≠x)->Bg C H x=H x:=by
   intro C
   induction C with
   | nil=>intro _;rfl
   | cons p C Y=>
    intro hC;obtain⟨c,u⟩:=p;have Z:x≠c:=λe=>hC (c,u) (by simp) e.symm;simp only[Bg,d9 Z];exact Y λp K=>hC p (f8 _ K)
  rw[key λp K e=>O ⟨p,K,e⟩,key λp ac e=>O ⟨p,K.mem_iff.2 ac,e⟩]
theorem FG{E H:LH}{B:List (Nat×Obj)}(h:Nd E H B)(K:B.Perm B'):mk E H B=mk E H B':=by unfold mk;rw[Nb h K]
variable{seg seg':Seg}
theorem Dm{S:List Seg}(h:S[j]?=some seg):S.flatten.Perm ((S.set j []).flatten++seg)/\(S.set j seg').flatten.Perm ((S.set j []).flatten++seg'):=by
 induction S generalizing j with
 | nil=>simp at h
 | cons x S K=>
  cases j with
  | zero=>
   simp at h;subst h;simp only[sd,qC,qS];exact⟨no,no⟩
  | succ j=>
   simp at h;let⟨O,U⟩:=K h;simp only[ta,qC,pE];exact⟨O.append_left x,U.append_left x⟩
theorem GM{E H:LH}{S:List Seg}(K:Au E H S)(h:S[j]?=some seg):Ak E H S=mk E H ((S.set j []).flatten++seg)/\Nd E H ((S.set j []).flatten++seg):=
 ⟨FG K (Dm (seg':=seg) h).1,Nd.perm K (Dm (seg':=seg) h).1⟩
theorem IY{E H:LH}{S:List Seg}(h:S[j]?=some seg)(K:Nd E H ((S.set j []).flatten++seg')):mk E H ((S.set j []).flatten++seg')=Ak E H (S.set j seg')/\Au E H (S.set j seg'):=
 ⟨FG K (Dm h).2.symm,Nd.perm K (Dm h).2.symm⟩
theorem Gh(S:List Seg)(seg:Seg):(S++ [seg]).flatten=S.flatten++seg:=by simp
theorem F2{E H:LH}{S:List Seg}(K:Nd E H (S.flatten++seg)):mk E H (S.flatten++seg)=Ak E H (S++ [seg])/\Au E H (S++ [seg]):=by
 unfold Ak Au;rw[Gh];exact⟨V,K⟩
theorem Dz{E H:LH}{S:List Seg}{i bk:Nat}{o:Obj}(K:Au E H S)(O:S[j]?=some seg)(hi:seg[i]?=some (bk,o)):(Ak E H S).get bk=some o:=by
 have hm:(bk,o)∈S.flatten:=sa.2 ⟨seg,qi O,qi hi⟩;let⟨Y,U⟩:=K.mem hm;exact QW K U
variable{off:Nat}
theorem B8{E H:LH}{S:List Seg}{bk:Nat}{c:Av_}{e:TypeId}{f:Nat×Nat}{v:Value}(K:Au E H S)(O:S[j]?=some ((bk,.cells c e f)::seg))(U:c[off]?=some v):(Ak E H S).cell? ⟨bk,off,none⟩=some v:=by
 unfold St.cell?;rw[Dz (i:=0) K O rfl];exact U
theorem YQ{E H:LH}{S:List Seg}{bk:Nat}{c:Av_}{e:TypeId}{f:Nat×Nat}{vs:Lv_}(K:Au E H S)(O:S[j]?=some ((bk,.cells c e f)::seg))(U:∀i v,vs[i]?=some v->c[off+i]?=some v):∀i v,vs[i]?=some v->(Ak E H S).cell? (Addr.add ⟨bk,off,none⟩ i)=some v:=λi v hi=>by
 rw[Et rfl];exact B8 K O (U i v hi)
def OL{α:Type}(e:TypeId)(p:Rp α)(E:LH)(a:Option Addr)(c:Nat)(seg:Seg)(xs:List α):Prop:=
 ∃wss:List (Lv_),GS e p.n a xs.length c seg wss.flatten/\wss.length=xs.length/\∀(i:Nat) x ws,xs[i]?=some x->wss[i]?=some ws->p.r E ws x
theorem OL.Ah{e:TypeId}{p:Rp α}{E E':LH}{a:Option Addr}{xs:List α}(h:OL e p E a c seg xs)(hle:Le E E'):OL e p E' a c seg xs:=
 let ⟨wss,K,O,U⟩:=h;⟨wss,K,O,λi x ws Y hw=>p.Ah hle (U i x ws Y hw)⟩
theorem OL.nil{e:TypeId}{p:Rp α}{E:LH}:OL e p E none 0 [] []:=⟨[],GS.nil,V,λi x ws K=>by simp at K⟩
variable{wss:List (Lv_)}
theorem IW{p:Rp α}{E:LH}{xs:List α}(K:wss.length=xs.length)(h:∀(i:Nat) x ws,xs[i]?=some x->wss[i]?=some ws->p.r E ws x):∀ws∈wss,ws.length=p.n:=λws hw=>by
 let⟨i,hi⟩:=qF.1 hw
 have O:i<xs.length:=by rw[← K];exact(d0.1 hi).1
 exact p.len (h i _ ws (d6 O) hi)
theorem Lq{α:Type}{n:Nat}:∀{wss:List (List α)},(∀ws∈wss,ws.length=n)->∀{i:Nat}{ws:List α},wss[i]?=some ws->∀j w,ws[j]?=some w->wss.flatten[i*n+j]?=some w
 | [],_,_,_,h,_,_,_=>by simp at h
 | us::wss,O,0,ws,h,j,w,K=>by
  simp at h;subst h
  have:j<us.length:=(d0.1 K).1
  simp only[qC,se,rO]
  rw[p8 this];exact K
 | us::wss,O,i+1,ws,h,j,w,K=>by
  simp at h
  have hu:us.length=n:=O us (by simp)
  simp only[qC]
  rw[nL (by rw[hu,rf];omega)]
  have e:(i+1)*n+j - us.length=i*n+j:=by rw[hu,rf];omega
  rw[e];exact Lq (λws hw=>O ws (f8 _ hw)) h j w K
variable {ρ:Operand->Value}{z:Operand}{kd':IntKind}{m':Int}
variable{r:Int}{ps:Array (Nat×Operand)}
section
variable {x:Operand}{v:Value}{m:Int}{a b:Nat}
theorem MN{a:Nat}:IntKind.u64.wrap (a:Int)=((a%2^64:Nat):Int):=by
 simp only[IntKind.wrap,IntKind.bits,IntKind.signed];simp
theorem cO(K:ρ x=.int .u64 (a:Int))(O:ρ y=.int .u64 (b:Int)):Yl P ⟨d,.binOp .add t x y u,ty,p,af,g⟩ ρ s (.int .u64 (((a+b)%2^64:Nat):Int)):=by
 have h:=Yl.add (P:=P) (s:=s) (d:=d) (t:=t) (u:=u) (ty:=ty) (p:=p) (af:=af) (g:=g) K O;rw[show((a:Int)+(b:Int))=((a+b:Nat):Int) by omega,MN] at h;exact h
theorem Po(K:ρ x=.int .u64 (a:Int))(O:ρ y=.int .u64 (b:Int)):Yl P ⟨d,.binOp .mul t x y u,ty,p,af,g⟩ ρ s (.int .u64 (((a*b)%2^64:Nat):Int)):=by
 have h:=Yl.mul (P:=P) (s:=s) (d:=d) (t:=t) (u:=u) (ty:=ty) (p:=p) (af:=af) (g:=g) K O;rw[show((a:Int)*(b:Int))=((a*b:Nat):Int) by rw[Int.natCast_mul],MN] at h;exact h
theorem Lx(K:ρ x=.int .u64 (a:Int))(O:ρ y=.int .u64 (b:Int)):Yl P ⟨d,.binOp .xor t x y u,ty,p,af,g⟩ ρ s (.int .u64 (((a ^^^ b)%2^64:Nat):Int)):=by
 have h:=Yl.xor (P:=P) (s:=s) (d:=d) (t:=t) (u:=u) (ty:=ty) (p:=p) (af:=af) (g:=g) K O;have e:(BitVec.ofInt IntKind.u64.bits (a:Int) ^^^ BitVec.ofInt IntKind.u64.bits (b:Int)).toNat=(a ^^^ b)%2^64:=by
  rw[Nat.xor_mod_two_pow];rw[sX,sX];show(BitVec.ofNat 64 a ^^^ BitVec.ofNat 64 b).toNat=_;rw[BitVec.toNat_xor,tg,tg]
 rw[e,MN,Nat.mod_mod] at h;exact h
theorem cQ(K:ρ x=.int .u64 (a:Int))(O:ρ y=.int .u64 (b:Int))(U:b≠0):Yl P ⟨d,.binOp .rem t x y u,ty,p,af,g⟩ ρ s (.int .u64 ((a%b:Nat):Int)):=by
 have h:=Yl.rem (P:=P) (s:=s) (d:=d) (t:=t) (u:=u) (ty:=ty) (p:=p) (af:=af) (g:=g) K O (by omega);rw[show(a:Int).tmod (b:Int)=((a%b:Nat):Int) from rfl] at h;exact h
theorem LD(c:Nat)(K:ρ x=.int .u64 (a:Int))(O:ρ y=.int .u64 (c:Int))(U:c<=64):Yl P ⟨d,.binOp .shr t x y u,ty,p,af,g⟩ ρ s (.int .u64 ((a>>>c:Nat):Int)):=by
 have h:=Yl.shr (P:=P) (s:=s) (d:=d) (t:=t) (u:=u) (ty:=ty) (p:=p) (af:=af) (g:=g) K O (by omega);have e:min (c:Int).toNat IntKind.u64.bits=c:=by simp[IntKind.bits];omega
 rw[e,so _ (Int.pow_nonneg (by decide))] at h;have e2:(a:Int)/2^c=((a>>>c:Nat):Int):=by rw[sy,Int.natCast_ediv];rfl
 rw[e2] at h;exact h
def CC(m:Int):Nat:=(m%2^64).toNat
def JR(a:Nat):Int:=IntKind.i64.wrap (a:Int)
theorem Yl.CC(K:P.underlying t=some (.int .i64))(hu:P.underlying u=some (.int .u64))(O:ρ x=iV m):Yl P ⟨d,.convert t u x,ty,p,af,g⟩ ρ s (.int .u64 ((CC m:Nat):Int)):=by
 have h:=FP (P:=P) (s:=s) (d:=d) (ty:=ty) (p:=p) (af:=af) (g:=g) K hu O
 have e:IntKind.u64.wrap m=((Pal.CC m:Nat):Int):=by
  unfold Pal.CC;simp only[IntKind.wrap,IntKind.bits,IntKind.signed];simp;omega
 rw[e] at h;exact h
theorem VZ(K:P.underlying t=some (.int .u64))(hu:P.underlying u=some (.int .i64))(O:ρ x=.int .u64 (a:Int)):Yl P ⟨d,.convert t u x,ty,p,af,g⟩ ρ s (iV (JR a)):=
 FP (P:=P) (s:=s) (d:=d) (ty:=ty) (p:=p) (af:=af) (g:=g) K hu O
theorem DW(K:ρ x=iV m)(O:ρ y=iV m')(h:Av (m+m')=some r):Yl P ⟨d,.binOp .add t x y u,ty,p,af,g⟩ ρ s (iV r):=by
 obtain⟨rfl,hb⟩:=Mk h;exact eW K O hb
theorem EA(K:ρ x=iV m)(O:ρ y=iV m')(h:Av (m - m')=some r):Yl P ⟨d,.binOp .sub t x y u,ty,p,af,g⟩ ρ s (iV r):=by
 obtain⟨rfl,hb⟩:=Mk h;exact cZ K O hb
theorem Lz(K:ρ x=iV m)(O:ρ y=iV m')(h:Av (m*m')=some r):Yl P ⟨d,.binOp .mul t x y u,ty,p,af,g⟩ ρ s (iV r):=by
 obtain⟨rfl,hb⟩:=Mk h;exact cJ K O hb
theorem HN(K:ρ x=iV m)(h:Av (-m)=some r):Yl P ⟨d,.unOp .neg t x,ty,p,af,g⟩ ρ s (iV r):=by
 obtain⟨rfl,hb⟩:=Mk h;exact cM K hb
theorem Iq(K:ρ x=.int kd m)(O:ρ y=.int kd m'):Yl P ⟨d,.binOp .neq t x y u,ty,p,af,g⟩ ρ s (.bool (decide (m≠m'))):=by
 have h:=Yl.neq (P:=P) (s:=s) (d:=d) (t:=t) (u:=u) (ty:=ty) (p:=p) (af:=af) (g:=g) K O;simpa using h
theorem KQ{q:Prop} [Decidable q] (K:ρ x=.bool (decide q)):Yl P ⟨d,.unOp .not t x,ty,p,af,g⟩ ρ s (.bool (decide (¬q))):=by
 have h:=Yl.not (P:=P) (s:=s) (d:=d) (t:=t) (ty:=ty) (p:=p) (af:=af) (g:=g) K;simpa using h
theorem Q9:execOp ρ ⟨d,.build t ps,ty,p,af,g⟩=(do pure (Next.value (← Instr.build t (ps.map λ(j,x)=>(j,ρ x))))):=by
 simp only[execOp]
theorem Yl.build{z:Value}{K:Array Field}{vs:List (Nat×Value)}{places:Array (Nat×Nat)}{cells:Av_}(Y:zeroOf P t=some z)(Z:P.underlying t=some (.struct K))(ac:K.toList.mapM (λf=>(Bz P f.type).map λn=>(f.offset,n))=some places.toList)
  (ag:ps.toList.map (λ(j,x)=>(j,ρ x))=vs) (ai:Instr.fill (places[·]?) z.cells vs=some cells):Yl P ⟨d,.build t ps,ty,p,af,g⟩ ρ s (.agg cells):=by
 refine F1 Q9 ?_;unfold Instr.build;refine AA (x:=zeroValue t) _ (Ik Y ?_);refine AA _ _ (CE Z ?_);simp only;have key:∀(l:List Field) (acc:List (Nat×Nat)) {Q:List (Nat×Nat)->St->Prop}{X:Halt->St->Prop}(ps:List (Nat×Nat)),l.mapM (λf=>(Bz P f.type).map λn=>(f.offset,n))=some ps->Q (acc.reverse++ps) s->lp P (List.mapM.loop (m:=Sem) (λf=>do pure (f.offset,← Go.sizeOf f.type)) l acc) s Q X:=by
  intro l
  induction l with
  | nil=>
   intro acc Q X ps h k;simp at h;subst h;simp only[qk] at k;exact k
  | cons f l al=>
   intro acc Q X ps h k;simp only[tK,bind] at h;cases O:Bz P f.type with
   | none=>rw[O] at h;simp at h
   | some n=>
    rw[O] at h;simp only[ra,Option.bind_some] at h;let⟨am,ap,U⟩:=bind_some h;simp at U;subst U;have:=al ((f.offset,n)::acc) (Q:=Q) (X:=X) am ap (by simpa using k);simp only[List.mapM.loop];exact AA _ _ (AA (x:=Go.sizeOf f.type) _ (FA O this))
 have e:(ps.map λ(j,x)=>(j,ρ x)).toList=vs:=by rw[← ag,ts]
 refine AA _ _ ?_;rw[rY];refine AA (x:=List.mapM.loop (m:=Sem) (λf=>do pure (f.offset,← Go.sizeOf f.type)) K.toList []) (f:=λr=>pure r.toArray) (key K.toList [] places.toList ac ?_)
 simp only[List.reverse_nil,qS,lp,pure];rw[e,ai];exact⟨V,V⟩
end
variable {S:List Seg}
variable{todo:Li_}{sz:Nat}{d1:Tmp}{ats:Array TypeId}{g':On_}{fn:Func}{R:Value->LH->Seg->Prop}{args:Array Operand}{S':List Seg}
section
variable {b:Frame}{n:Nat}
variable {x:Operand}{v:Value}{i:Nat}
theorem JS.box(O:ops[i]?=some ⟨d,.box e x,ty,p,af,g⟩)(hw:AY L ops ⟨d,.box e x,ty,p,af,g⟩=some true)(U:BX b n ⟨d,.box e x,ty,p,af,g⟩=true)(Y:Au E H S)(Z:ev L x=some v)
  (h:∀r,Au E H (S++ [[(r,.cells v.cells e (0,0))]])->JL J Q b n (AB L d (.pointer (some ⟨r,0,none⟩))) ds (.inRegion ops rest::k) cs (Ak E H (S++ [[(r,.cells v.cells e (0,0))]]))):
  JL J Q b n L ds (.inRegion ops (i::rest)::k) cs (Ak E H S):=
 JL.box O hw U Y Z λr K=>by rw[(F2 K).1];exact h r (F2 K).2
theorem JS.alloc{z:Value}(O:ops[i]?=some ⟨d,.alloc e,ty,p,af,g⟩)(hw:AY L ops ⟨d,.alloc e,ty,p,af,g⟩=some true)(U:BX b n ⟨d,.alloc e,ty,p,af,g⟩=true)(Y:Au E H S)(Z:zeroOf P e=some z)
  (h:∀r,Au E H (S++ [[(r,.cells z.cells e (0,0))]])->JL J Q b n (AB L d (.pointer (some ⟨r,0,none⟩))) ds (.inRegion ops rest::k) cs (Ak E H (S++ [[(r,.cells z.cells e (0,0))]]))):
  JL J Q b n L ds (.inRegion ops (i::rest)::k) cs (Ak E H S):=
 JL.alloc O hw U Y Z λr K=>by rw[(F2 K).1];exact h r (F2 K).2
theorem JS.store{bk:Nat}{c:Av_}(j:Nat)(U:ops[i]?=some ⟨d,.store t x y,ty,p,af,g⟩)(hw:AY L ops ⟨d,.store t x y,ty,p,af,g⟩=some true)(Y:BX b n ⟨d,.store t x y,ty,p,af,g⟩=true)(Z:Au E H S)
  (ac:ev L x=some (.pointer (some ⟨bk,off,none⟩))) (ag:ev L y=some v) (ai:Bz P t=some v.cells.size) (al:∀u∈v.cells.toList,CM u=true) (K:S[j]?=some [(bk,.cells c e (0,0))]) (hle:off+v.cells.size<=c.size)
  (h:Au E H (S.set j [(bk,.cells (A9 c off v.cells.toList) e (0,0))])->JL J Q b n (AB L d undef) ds (.inRegion ops rest::k) cs (Ak E H (S.set j [(bk,.cells (A9 c off v.cells.toList) e (0,0))]))):
  JL J Q b n L ds (.inRegion ops (i::rest)::k) cs (Ak E H S):=by
 let⟨am,ap⟩:=GM Z K;rw[am];refine JL.store (S.set j []).flatten.length U hw Y ap ac ag ai al (c:=c) (e:=e) (by simp) hle λO=>?_;have aq:((S.set j []).flatten++ [(bk,Obj.cells c e (0,0))]).set (S.set j []).flatten.length (bk,.cells (A9 c off v.cells.toList) e (0,0))=(S.set j []).flatten++ [(bk,.cells (A9 c off v.cells.toList) e (0,0))]:=HO _ _ _ _;rw[aq] at O ⊢;let⟨av,aw⟩:=IY K O;rw[av];exact h aw
theorem JS.drop(j:Nat)(Y:Au E H S)(K:S[j]?=some seg)(h:Au E H (S.set j [])->JL J Q b n L ds todo cs (Ak E H (S.set j []))):JL J Q b n L ds todo cs (Ak E H S):=by
 let⟨Z,O⟩:=GM Y K;rw[Z];have ac:Nd E H ((S.set j []).flatten++ []):=by rw[qk];exact KH.Nd.left O
 let⟨U,ag⟩:=IY (seg':=[]) K ac;refine JL.drop (S.set j []).flatten (λq ai=>qF.1 (qZ _ ai)) O ?_;have al:(S.set j []).flatten++ []=(S.set j []).flatten:=qk _;rw[al] at U;rw[U];exact h ag
theorem Dl{bk:Nat}{c:Av_}{f:Nat×Nat}(j:Nat)(O:Au E H S)(U:S[j]?=some [(bk,.cells c e f)])
  (h:∀E',Le E E'->At E' bk 0 c.toList->Au E' H (S.set j [])->JL J Q b n L ds todo cs (Ak E' H (S.set j []))):JL J Q b n L ds todo cs (Ak E H S):=by
 let⟨Y,Z⟩:=GM O U;rw[Y];have ac:((S.set j []).flatten++ [(bk,Obj.cells c e f)])[(S.set j []).flatten.length]?=some (bk,Obj.cells c e f):=by simp
 refine JL.freeze (S.set j []).flatten.length Z ac λE' hle ag K=>?_;have ai:((S.set j []).flatten++ [(bk,Obj.cells c e f)]).eraseIdx (S.set j []).flatten.length=(S.set j []).flatten:=by rw[rQ (oU _)];simp
 rw[ai] at K ⊢;exact h E' hle ⟨_,_,_,ag,λi w hi=>by simpa using hi⟩ K
theorem Cp{pp:Rp α}{a:Option Addr}{xs:List α}(j:Nat)(U:OL e pp E a c seg xs)(al:Au E H S)(am:S[j]?=some seg)
  (h:∀E',Le E E'->Ao pp E' a c xs->Au E' H (S.set j [])->JL J Q b n L ds todo cs (Ak E' H (S.set j []))):JL J Q b n L ds todo cs (Ak E H S):=by
 obtain⟨wss,U,ac,ag⟩:=U;have ap:∀ad:Addr,a=some ad->ad.spot=none:=λad K=>by
  rcases U with⟨O,_⟩ | ⟨bk,f,O,_⟩;rw[O] at K;cases K;rw[O] at K;cases K;rfl
 let⟨O,aq⟩:=GM al am;rw[O];refine Yb U aq λE' hle av aw=>h E' hle ?_ aw;obtain⟨ay,az,Y,a0,a4,Z⟩:=av;obtain⟨rfl,-,rfl⟩:a=ay/\xs.length=xs.length/\c=az:=by
  simp only[Value.slice.injEq] at Y;exact⟨Y.1,V,Y.2.2⟩
 refine⟨a0,?_⟩;rcases Z with Z | ⟨bk,off,f,a1,fr,g1,g2,a2⟩;exact .inl ⟨qx Z,λad K=>.inl (ap ad K)⟩
 .refine .inr ⟨bk,off,g1,λi x ai=>?_⟩;have a3:i<wss.length:=by rw[ac];exact(d0.1 ai).1
  have hw:=d6 a3;refine⟨wss[i],pp.Ah hle (ag i x _ ai hw),f,a1,fr,g2,λm w hm=>?_⟩;rw[sr];exact a2 _ w (Lq (IW ac ag) hw m w hm)
theorem Yi{pp:Rp α}{xs:List α}{x:α}{ws:Lv_}(O:wss.length=xs.length)(h:∀(i:Nat) x ws,xs[i]?=some x->wss[i]?=some ws->pp.r E ws x)(U:pp.r E ws x):
  ∀(i:Nat) y us,(xs++ [x])[i]?=some y->(wss++ [ws])[i]?=some us->pp.r E us y:=by
 intro i y us K hu;rcases gD i xs.length with hi | hi;rw[p8 hi] at K;rw[p8 (by omega)] at hu;exact h i y us K hu
 .rw [nL hi] at K;rw[nL (by omega),O] at hu;cases hm:i - xs.length with
  | zero=>rw[hm] at K hu;simp at K hu;subst K hu;exact U
  | succ m=>rw[hm] at K;simp at K
theorem YC{pp:Rp α}{t1 t2:TypeId}{a:Option Addr}{xs:List α}{xv:α}{id:Nat}{Y:TypeId}{Z:String}{ac:Ae_}{z:Value}(j:Nat)
  (aq:ops[i]?=some ⟨some d1,.buildSlice t2 1 #[(0,y)],Y,Z,ac,g'⟩) (hw:AY L ops ⟨some d1,.buildSlice t2 1 #[(0,y)],Y,Z,ac,g'⟩=some true) (av:BX b n ⟨some d1,.buildSlice t2 1 #[(0,y)],Y,Z,ac,g'⟩=true)
  (aw:ops[id]?=some ⟨d,.call ⟨.builtin .append,#[x,.tmp d1],ats⟩,ty,p,af,g⟩) (ay:∀w,AY (AB L (some d1) w) ops ⟨d,.call ⟨.builtin .append,#[x,.tmp d1],ats⟩,ty,p,af,g⟩=some true) (az:BX b n ⟨d,.call ⟨.builtin .append,#[x,.tmp d1],ats⟩,ty,p,af,g⟩=true)
  (a0:∀w,ev (AB L (some d1) w) x=some (.slice a xs.length c)) (a1:ev L y=some v) (a2:ats[0]?=some t) (a3:ats[1]?=some t1) (a4:P.underlying t=some (.slice e)) (a5:P.underlying t1=some (.slice e)) (a6:P.underlying t2=some (.slice e)) (a7:Bz P e=some pp.n) (hb:F6 P e=some sz) (a8:zeroOf P e=some z) (a9:z.cells.size=pp.n)
  (bb:0<sz) (be:sz<=64) (bi:0<pp.n) (bn:pp.n<=64) (bo:xs.length+1<=2^40) (ag:OL e pp E a c seg xs) (ai:pp.r E v.cells.toList xv) (bv:Au E H S) (am:S[j]?=some seg)
  (h:∀w K O seg',OL e pp E K O seg' (xs++ [xv])->Au E H (S.set j seg')->JL J Q b n (AB (AB L (some d1) w) d (.slice K (xs++ [xv]).length O)) ds (.inRegion ops rest::k) cs (Ak E H (S.set j seg'))):
  JL J Q b n L ds (.inRegion ops (i::id::rest)::k) cs (Ak E H S):=by
 obtain⟨wss,ag,ap,bw⟩:=ag;let⟨bx,bz⟩:=GM bv am;rw[bx];have b0:v.cells.size=pp.n:=by simpa using pp.len ai
 refine YG aq hw av aw ay az a0 a1 a2 a3 a4 a5 a6 a7 hb a8 a9 bb be b0 bi bn bo (pp.one ai) ag bz λw K O b1 b2 b3=>?_;let⟨b4,b5⟩:=IY am b3;rw[b4];have hlen:(xs++ [xv]).length=xs.length+1:=by simp
 have:=h w K O b1 ⟨wss++ [v.cells.toList],by rw[hlen,ru];simpa using b2,by simp[ap],Yi ap bw ai⟩ b5;rw[hlen] at this;exact this
theorem VW{pp:Rp α}{a:Option Addr}{xs:List α}{xv:α}{m:Int}(O:Ao pp E a c xs)(hm:ix xs m=some xv)
  (U:ops[i]?=some ⟨d,.indexAddr t x y,ty,p,af,g⟩) (hw:AY L ops ⟨d,.indexAddr t x y,ty,p,af,g⟩=some true) (Y:BX b n ⟨d,.indexAddr t x y,ty,p,af,g⟩=true)
  (Z:ev L x=some (.slice a xs.length c)) (ac:ev L y=some (.int kd m)) (ag:P.underlying t=some (.slice e)) (ai:Bz P e=some pp.n)
  (h:∀bk o ws,pp.r E ws xv->At E bk o ws->JL J Q b n (AB L d (.pointer (some ⟨bk,o,none⟩))) ds (.inRegion ops rest::k) cs (Ak E H S)):
  JL J Q b n L ds (.inRegion ops (i::rest)::k) cs (Ak E H S):=by
 obtain⟨m,rfl,hm⟩:=Gj hm;have al:m<xs.length:=(d0.1 hm).1;obtain⟨av,⟨rfl,_⟩ | ⟨bk,off,rfl,am⟩⟩:=O;simp at al
 let⟨ws,ap,aq⟩:=am m xv hm;refine Bl (v:=.pointer (some ⟨bk,off+m*pp.n,none⟩)) U hw Y (λρ K=>?_) (h bk _ ws ap aq);have:=Ng (P:=P) (s:=Ak E H S) (d:=d) (ty:=ty) (p:=p) (af:=af) (g:=g) ag ai (K x _ Z) (K y _ ac) ⟨by omega,by omega⟩;rw[Et rfl] at this;simpa using this
theorem At.Kn{bk o:Nat}{ws:Lv_}(h:At E bk o ws)(K:ws[j]?=some w):(Ak E H S).cell? ⟨bk,o+j,none⟩=some w:=h.cell K
theorem At.Sc{bk o:Nat}{ws:Lv_}(h:At E bk o ws):∀j v,ws[j]?=some v->(Ak E H S).cell? (Addr.add ⟨bk,o,none⟩ j)=some v:=h.cells
theorem BF(I:Env->St->Prop){c:Code}(K:∀L s,I L s->JL J Q b n L ds todo cs s)(h:(∀L s,I L s->JL J Q b n L ds todo cs s)->JL J Q b n L ds (.code c::todo) cs s):JL J Q b n L ds (.code c::todo) cs s:=h K
theorem Ju{K:List Nat}(l:List Nat)(I:Env->St->Prop)(O:∀L s,I L s->JL J Q b n L ds (.inRegion ops l::todo) cs s)(h:(∀L s,I L s->JL J Q b n L ds (.inRegion ops l::todo) cs s)->JL J Q b n L ds (.inRegion ops K::todo) cs s):JL J Q b n L ds (.inRegion ops K::todo) cs s:=h O
theorem U6{c:Code}{body:β->Option (Bt β A)}{f:Nat}{O:β}{a:A}(U:iter body f O=some a)(I:Env->St->β->Prop)(Z:I L s O)
  (round:∀L s x,I L s x->(∀Y,body x=some (.done Y)->Y=a)->(∃st,body x=some st)->(∀L' s' x',I L' s' x'->body x=some (.more x')->JL J Q b n L' ds (.inLoop c::k) cs s')->JL J Q b n L ds (.code c:: .inLoop c::k) cs s):
  JL J Q b n L ds (.code (.loop c)::k) cs s:=by
 refine IT ?_
 induction f generalizing L s O with
 | zero=>cases U
 | succ f ac=>
  refine round L s O Z (λY h=>TQ U h) (T1 U) λL' s' x' ag hb=>JL.again (ac (T2 U hb) ag)
def AW(J:Judge P)(f:FuncId)(args:Lv_)(E:LH)(B:Seg)(R:Value->LH->Seg->Prop):Prop:=
 ∀H,Nd E H B->Fc J f args.toArray (mk E H B) (λv s'=>∃E' B',Le E E'/\R v E' B'/\Nd E' H B'/\s'=mk E' H B')
theorem AW.enter{f:FuncId}{c:Code}{vs:Lv_}{B:Seg}(O:P.funcs[f]?=some fn)(hb:fn.body=some c)(U:vs.length<=fn.ntmps)
  (h:∀(Q:Gs_) (K:Frame) (cs:Lf_) (H:LH),Au E H [B]->(∀v E' S' B',Le E E'->S'.flatten=B'->R v E' B'->Au E' H S'->J.ok Q (G (K.finish v) cs) (Ak E' H S'))->JL J Q (base f) fn.ntmps (GR 0 vs) [] [.code c] (K::cs) (Ak E H [B])):AW J f vs E B R:=λH Y=>
 Fc.enter O hb U λQ K cs Z=>by
  have ac:mk E H B=Ak E H [B]:=by unfold Ak;simp
  rw[ac];exact h Q K cs H (by unfold Au;simpa using Y) λv E' S' B' hle ag ai al=>by
   subst ag;exact Z v _ ⟨E',S'.flatten,hle,ai,al,rfl⟩
theorem AW.Ah{f:FuncId}{vs:Lv_}{B:Seg}{K:Value->LH->Seg->Prop}(h:AW J f vs E B R)(U:∀v E' B',Le E E'->R v E' B'->K v E' B'):AW J f vs E B K:=λH Y=>
 (h H Y).Ah λv s' ⟨E',B',O,Z,ac,ag⟩=>⟨E',B',O,U v E' B' O Z,ac,ag⟩
theorem Ge{H:LH}:∀{A B:List (Nat×Obj)},Bg (A++B) H=Bg A (Bg B H)
 | [],_=>rfl
 | (c,o)::A,B=>by
  funext x
  simp only[qX,Bg]
  split;rfl;rw[Ge]
theorem Nf{H:LH}{x:Nat}:∀{B:List (Nat×Obj)},(∀p∈B,p.1≠x)->Bg B H x=H x
 | [],_=>rfl
 | (c,u)::B,K=>by
  have O:x≠c:=λe=>K (c,u) (by simp) e.symm
  simp only[Bg,d9 O]
  exact Nf λp U=>K p (f8 _ U)
theorem Nd.front{A B:List (Nat×Obj)}(h:Nd E H (A++B)):Nd E (Bg B H) A:=by
 rw[Nd.iff] at h ⊢;obtain⟨K,U⟩:=h;rw[qN,qO] at K;refine⟨K.1,λq O=>⟨(U q (qZ _ O)).1,?_⟩⟩;rw[Nf λr Y e=>K.2.2 q.1 (sF O) r.1 (sF Y) e.symm];exact(U q (qZ _ O)).2
theorem Nd.glue{A B:List (Nat×Obj)}(h:Nd E (Bg B H) A)(U:Nd E H B):Nd E H (A++B):=by
 have Y:=U;rw[Nd.iff] at h U ⊢;rw[qN,qO];have key:∀q∈A,∀r∈B,q.1≠r.1:=λq K r O e=>by
  have:=(h.2 q K).2;rw[e] at this;let⟨i,hi⟩:=Y.mem (b:=r.1) (o:=r.2) O;rw[Kd Y hi] at this;cases this
 refine⟨⟨h.1,U.1,λx Z y ac e=>?_⟩,λq K=>?_⟩;obtain⟨q,K,rfl⟩:=qK.1 Z;obtain⟨r,O,rfl⟩:=qK.1 ac;exact key q K r O e
 .rcases gM.1 K with K | K
  .refine⟨(h.2 q K).1,?_⟩;have:=(h.2 q K).2
   rwa[Nf λr O e=>key q K r O e.symm] at this
  .exact U.2 q K
theorem UH{f:FuncId}{vs:Lv_}(j:Nat)
  (ag:AW J f vs E seg R) (ai:ops[i]?=some ⟨d,.call ⟨.value (.func f),args,ats⟩,ty,p,af,g⟩) (hw:AY L ops ⟨d,.call ⟨.value (.func f),args,ats⟩,ty,p,af,g⟩=some true) (al:((b.kind != .early)&&Bu n d)=true) (hb:Ei P f=true)
  (am:evs L args.toList=some vs) (K:Au E H S) (O:S[j]?=some seg) (ap:∀v E' seg',Le E E'->R v E' seg'->Au E' H (S.set j seg')->JL J Q b n (AB L d v) ds (.inRegion ops rest::k) cs (Ak E' H (S.set j seg'))):
  JL J Q b n L ds (.inRegion ops (i::rest)::k) cs (Ak E H S):=by
 have U:S.flatten.Perm (seg++(S.set j []).flatten):=(Dm (seg':=seg) O).1.trans no;have Y:Nd E H (seg++(S.set j []).flatten):=Nd.perm K U;have aq:Ak E H S=mk E (Bg (S.set j []).flatten H) seg:=by
  rw[show Ak E H S=mk E H S.flatten from rfl,FG K U];unfold mk;rw[Ge]
 rw[aq];refine b7 ai hw al hb am (ag _ (Nd.front Y)) ?_;rintro v s' ⟨E',B',hle,av,aw,rfl⟩;have e2:mk E' (Bg (S.set j []).flatten H) B'=mk E' H (B'++(S.set j []).flatten):=by unfold mk;rw[Ge]
 have ay:Nd E H (S.set j []).flatten:=by
  have:=Y;rw[Nd.iff] at this ⊢;rw[qN,qO] at this;exact⟨this.1.2.1,λq az=>this.2 q (qG _ az)⟩
 refine Vg V λ⟨w,a0⟩=>?_;have a1:Nd E' H (S.set j []).flatten:=ay.grow λx a2=>by
  have a3:=a0.d x a2;have a4:Bg B' (Bg (S.set j []).flatten H) x=none:=a3;exact(Ij a4).1
 have Z:Nd E' H (B'++(S.set j []).flatten):=Nd.glue aw a1;rw[e2];have ac:(B'++(S.set j []).flatten).Perm (S.set j B').flatten:=no.trans (Dm O).2.symm;rw[FG Z ac];exact ap v E' B' hle av (Nd.perm Z ac)
theorem JS.call{f:FuncId}{vs:Lv_}
  (U:AW J f vs E [] R) (Y:ops[i]?=some ⟨d,.call ⟨.value (.func f),args,ats⟩,ty,p,af,g⟩) (hw:AY L ops ⟨d,.call ⟨.value (.func f),args,ats⟩,ty,p,af,g⟩=some true) (Z:((b.kind != .early)&&Bu n d)=true) (hb:Ei P f=true)
  (ac:evs L args.toList=some vs) (K:Au E H S) (ag:∀v E' seg',Le E E'->R v E' seg'->Au E' H (S++ [seg'])->JL J Q b n (AB L d v) ds (.inRegion ops rest::k) cs (Ak E' H (S++ [seg']))):
  JL J Q b n L ds (.inRegion ops (i::rest)::k) cs (Ak E H S):=by
 have ai:Ak E H S=Ak E H (S++ [[]]):=by unfold Ak;simp
 rw[ai];refine UH S.length U Y hw Z hb ac (by unfold Au at K ⊢;rw[Gh,qk];exact K) (by simp) λv E' seg' hle al O=>?_;have e2:(S++ [[]]).set S.length seg'=S++ [seg']:=HO _ _ _ _;rw[e2] at O ⊢;exact ag v E' seg' hle al O
theorem Io(K:S'.flatten=S.flatten)(O:Au E H S)(h:Au E H S'->JL J Q b n L ds todo cs (Ak E H S')):JL J Q b n L ds todo cs (Ak E H S):=by
 unfold Ak Au at*;rw[K] at h;exact h O
end
def Ld(P:Program)(t:TypeId)(a:Addr)(s:St)(v:Value):Prop:=lp P (loadVar t a) s (λu s'=>u=v/\s'=s) (λ_ _=>False)
theorem Ld.one{P:Program}{t:TypeId}{a:Addr}{s:St}{v:Value}(K:DY P t=some false)(h:s.cell? a=some v):Ld P t a s v:=Tx K h ⟨V,V⟩
theorem Ld.many{P:Program}{t:TypeId}{a:Addr}{s:St}{vs:Lv_}(K:DY P t=some true)(O:Bz P t=some vs.length)(h:∀j v,vs[j]?=some v->s.cell? (a.add j)=some v):Ld P t a s (.agg vs.toArray):=Tt K O h ⟨V,V⟩
def RV(P:Program)(L:Env)(s:St):List ResultVar->Lv_->Prop
 | [],[]=>True
 | .tmp t::rs,v::vs=>look L t=some v/\RV P L s rs vs
 | .cell a t::rs,v::vs=>(∃ad,look L a=some (.pointer (some ad))/\Ld P t ad s v)/\RV P L s rs vs
 | _,_=>False
def O8:Lv_->Value
 | [v]=>v
 | vs=>.tuple vs.toArray
theorem YM(vs:Lv_):(if h:vs.toArray.size=1 then vs.toArray[0] else Value.tuple vs.toArray)=O8 vs:=by
 match vs with
 | []=>rfl
 | [v]=>rfl
 | a::b::c=>simp[O8]
theorem BL.list{P:Program}{f:FuncId}{n:Nat}{L:Env}{s:St}{rs:List ResultVar}{vs:Lv_}(Z:P.funcs[f]?=some fn)(ac:fn.results.toList=rs)(h:RV P L s rs vs):BL P f L n s (O8 vs):=by
 refine⟨fn,Z,λT U=>?_⟩;unfold results;rw[rY,ac];have key:∀(rs:List ResultVar) (acc vs:Lv_) {Q:Lv_->St->Prop}{X:Halt->St->Prop},RV P L s rs vs->Q (acc.reverse++vs) s->lp P (List.mapM.loop (m:=Sem) (λr=>match r with
   | .tmp t=>pure (T.getD t undef)
   | .cell a t=>do loadVar t (← asAddr (T.getD a undef))) rs acc) s Q X:=by
  intro rs
  induction rs with
  | nil=>
   intro acc vs Q X h k;cases vs with
   | nil=>simp only[qk] at k;exact k
   | cons v vs=>cases h
  | cons r rs Y=>
   intro acc vs Q X h k;cases vs with
   | nil=>cases r<;>cases h
   | cons v vs=>
    cases r with
    | tmp t=>
     obtain⟨K,O⟩:=h;have:=U.at_ t v K;simp only[List.mapM.loop];rw[this];exact Y (v::acc) vs O (by simpa using k)
    | cell a t=>
     obtain⟨⟨ad,K,ag⟩,O⟩:=h;have:=U.at_ a _ K;simp only[List.mapM.loop];rw[this];refine AA _ _ (Es _ (show lp P (loadVar t ad) s _ _ from ag) ?_ (λ_ _ h=>h.elim));rintro u s' ⟨rfl,rfl⟩;exact Y (u::acc) vs O (by simpa using k)
 refine AA _ _ (AA (x:=List.mapM.loop (m:=Sem) _ rs []) (f:=λr=>pure r.toArray) ?_);refine key rs [] vs h ?_;simp only[List.reverse_nil,qS,lp,pure];exact⟨YM vs,trivial⟩
section
variable {g:Goroutine}
theorem EO(j:Nat)(Z:Au E H S)(U:S[j]?=some seg)(h:Au E H (S.set j [])->J.ok Q g (Ak E H (S.set j []))):J.ok Q g (Ak E H S):=by
 let⟨ac,K⟩:=GM Z U;have ag:Nd E H ((S.set j []).flatten++ []):=by rw[qk];exact KH.Nd.left K
 let⟨ap,ai⟩:=IY (seg':=[]) U ag;refine J.ghost (s₀:=Ak E H (S.set j [])) ⟨λ_ _ h=>h,λx o al=>?_,λ_ _ h=>.inl h,V⟩ (h ai);have Y:Bg (S.set j []).flatten H x=some o:=al;show(Ak E H S).H x=some o;rw[ac];show Bg ((S.set j []).flatten++seg) H x=some o;rw[show Bg ((S.set j []).flatten++seg) H=Bg (seg++(S.set j []).flatten) H from Nb K no,Ge];by_cases hm:∃p∈seg,p.1=x;exfalso;obtain⟨p,O,e⟩:=hm;have am:=Nd.front (Nd.perm K no);have:=((Nd.iff.1 am).2 p O).2;rw[e,Y] at this;cases this;rw[Nf λp O e=>hm ⟨p,O,e⟩];exact Y
end
variable{E0:LH}{K:Next->St->Prop}
section
variable {b:Frame}{n:Nat}
variable {x:Operand}{v:Value}{i:Nat}
theorem TY{ρ:Operand->Value}:execOp ρ ⟨d,.buildSlice t sz ps,ty,p,af,g⟩=(do pure (Next.value (← Instr.buildSlice t sz (ps.map λ(j,x)=>(j,ρ x))))):=by
 simp only[execOp]
theorem Yk(v:Av_)(off:Nat)(c:Av_):v.zipIdx.foldl (λcs (x,j)=>cs.setIfInBounds (off+j) x) c=A9 c off v.toList:=by
 rw[← Array.foldl_toList,Array.toList_zipIdx];have key:∀(l:Lv_) (st:Nat) (c:Av_),List.foldl (λcs (p:Value×Nat)=>cs.setIfInBounds (off+p.2) p.1) c (l.zipIdx st)=A9 c (off+st) l:=by
  intro l
  induction l with
  | nil=>intro st c;rfl
  | cons x l K=>intro st c;simp only[tU,rv,A9];rw[K];rfl
 exact key v.toList 0 c
def LR(place:Nat->Option (Nat×Nat))(cells:Av_):List (Nat×Value)->Option (Av_)
 | []=>some cells
 | (i,v)::rest=>match place i with
  | none=>none
  | some (off,size)=>if v.cells.size=size/\off+v.cells.size<=cells.size then LR place (A9 cells off v.cells.toList) rest else none
theorem fill_eq{place:Nat->Option (Nat×Nat)}:∀{vs:List (Nat×Value)}{cells:Av_},Instr.fill place cells vs=LR place cells vs
 | [],_=>rfl
 | (i,v)::rest,cells=>by
  simp only[Instr.fill,LR]
  cases place i with
  | none=>rfl
  | some q=>
   obtain⟨off,size⟩:=q
   simp only
   by_cases h:v.cells.size=size/\off+v.cells.size<=cells.size;rw[d7 h,d9 (by simp only[rb,rt,ne_eq];omega),fill_eq,Yk];rw[d9 h,d7 (by simp only[rb,rt,ne_eq];omega)]
theorem Uo{n:Nat}:∀(vs:Lv_) (st:Nat) (cells:Av_),(∀v∈vs,v.cells.size=n)->cells.size=(st+vs.length)*n->
  ∃U,LR (λi=>some (i*n,n)) cells ((vs.zipIdx st).map λq=>(q.2,q.1))=some U/\U.toList=cells.toList.take (st*n)++(vs.map (·.cells.toList)).flatten
 | [],st,cells,_,K=>⟨cells,rfl,by simp only[List.length_nil,re] at K;simp[← K,rj]⟩
 | v::vs,st,cells,Y,K=>by
  have O:=Y v (by simp)
  have hle:st*n+n<=cells.size:=by
   rw[K,qz];have:(st+1)*n<=(st+(vs.length+1))*n:=qR _ (by omega);rw[rf] at this;exact this
  obtain⟨Z,ac,ag⟩:=Uo vs (st+1) (A9 cells (st*n) v.cells.toList) (λu hu=>Y u (f8 _ hu)) (by rw[Na,K,qz];congr 1;omega);refine⟨Z,?_,?_⟩;simp only[tU,q7,LR];rw[d7 ⟨O,by omega⟩];exact ac;rw[ag,rf];have:=QJ cells (st*n) v.cells.toList (by simp[O];omega);rw[show v.cells.toList.length=n by simp[O]] at this;rw[this];simp
def K6{α:Type}(pp:Rp α)(E:LH):List α->Lv_->Prop
 | [],[]=>True
 | x::xs,v::vs=>pp.r E v.cells.toList x/\K6 pp E xs vs
 | _,_=>False
theorem K6.at{E:LH}{α:Type}{pp:Rp α}:∀{xs:List α}{vs:Lv_},K6 pp E xs vs->∀(i:Nat) x v,xs[i]?=some x->vs[i]?=some v->pp.r E v.cells.toList x
 | [],_,_,_,_,_,h,_=>by simp at h
 | _::_,[],h,_,_,_,_,_=>h.elim
 | x::xs,v::vs,h,0,y,u,K,hu=>by simp at K hu;subst K hu;exact h.1
 | x::xs,v::vs,h,i+1,y,u,K,hu=>K6.at h.2 i y u (by simpa using K) (by simpa using hu)
theorem Sa{ρ:Operand->Value}(av:Fa L ρ){pp:Rp α}(vs:Lv_){z:Value}(xs:List α)
  (aw:P.underlying t=some (.slice e)) (ay:Bz P e=some pp.n) (az:zeroOf P e=some z) (a0:decide (0<sz*pp.n/\sz*pp.n<=2^24)=true)
  (a1:ps.toList.mapM (λq=>(ev L q.2).map λv=>(q.1,v))=some ((vs.zipIdx 0).map λq=>(q.2,q.1)))
  (U:vs.length=sz) (Y:xs.length=sz) (a2:K6 pp E0 xs vs) (a3:Au E H S)
  (h:∀r seg,OL e pp E0 (some ⟨r,0,none⟩) sz seg xs->Au E H (S++ [seg])->K (.value (.slice (some ⟨r,0,none⟩) xs.length sz)) (Ak E H (S++ [seg]))):
  lp P (execOp ρ ⟨d,.buildSlice t sz ps,ty,p,af,g⟩) (Ak E H S) K (λ_ _=>False):=by
 have ai:=a2.at;have a4:(ps.map λ(j,x)=>(j,ρ x)).toList=(vs.zipIdx 0).map λq=>(q.2,q.1):=by
  have key:∀(l:List (Nat×Operand)) (vs:List (Nat×Value)),l.mapM (λq=>(ev L q.2).map λv=>(q.1,v))=some vs->l.map (λ(j,x)=>(j,ρ x))=vs:=by
   intro l
   induction l with
   | nil=>intro vs h;simp at h;subst h;rfl
   | cons q l Z=>
    intro vs h;simp only[tK,bind] at h;cases ac:ev L q.2 with
    | none=>rw[ac] at h;simp at h
    | some w=>
     rw[ac] at h;simp only[ra,Option.bind_some] at h;let⟨a5,a6,al⟩:=bind_some h;simp at al;subst al;simp[Z a5 a6,av _ _ ac]
  rw[ts];exact key _ _ a1
 have am:∀v∈vs,v.cells.size=pp.n:=λv O=>by
  let⟨i,hi⟩:=qF.1 O;have a7:i<xs.length:=by rw[Y,← U];exact(d0.1 hi).1
  simpa using pp.len (ai i _ v (d6 a7) hi)
 rw[TY];refine AA _ _ ?_;unfold Instr.buildSlice;refine AA _ _ (CE aw ?_);refine AA _ _ (FA ay ?_);have bb:=su a0;rw[d9 (by omega),d9 (by omega)];refine AA (x:=zeroValue e) _ (Ik az ?_);rw[IN,a4];obtain⟨cells,a8,ag⟩:=Uo vs 0 ((Array.range (sz*pp.n)).map (z.cells[· % z.cells.size]!)) am (by simp[U]);simp only[fill_eq,a8];simp only[se,List.take_zero,qS] at ag;refine AA _ _ (Ka a3 λr ap=>?_);rw[(F2 ap).1];have aq:cells.size=sz*pp.n:=by
  have:cells.toList.length=sz*pp.n:=by
   rw[ag];have:∀(vs:Lv_),(∀v∈vs,v.cells.size=pp.n)->(vs.map (·.cells.toList)).flatten.length=vs.length*pp.n:=by
    intro vs
    induction vs with
    | nil=>intro _;simp
    | cons v vs Z=>intro h;rw[q7,qC,pJ,Z λw hw=>h w (f8 _ hw),qz,rf,tV];simp[h v (by simp)]
   rw[this vs am,U]
  simpa using this
 have:=h r [(r,.cells cells e (0,0))] ⟨vs.map (·.cells.toList),.inr ⟨r,cells,rfl,rfl,aq,by omega,by rw[← ag,rj (by simp[aq,Y])]⟩,by simp[U,Y],λi x ws a9 hw=>by
  rw[qI] at hw
  cases O:vs[i]? with
  | none=>rw[O] at hw;cases hw
  | some v=>rw[O] at hw;cases hw;exact ai i x v a9 O⟩ (F2 ap).2
 rw[Y] at this;exact this
theorem Gx{pp:Rp α}(vs:Lv_){z:Value}(xs:List α)
  (K:ops[i]?=some ⟨d,.buildSlice t sz ps,ty,p,af,g⟩) (hw:AY L ops ⟨d,.buildSlice t sz ps,ty,p,af,g⟩=some true) (O:BX b n ⟨d,.buildSlice t sz ps,ty,p,af,g⟩=true)
  (U:P.underlying t=some (.slice e)) (Y:Bz P e=some pp.n) (Z:zeroOf P e=some z) (ac:decide (0<sz*pp.n/\sz*pp.n<=2^24)=true)
  (ag:ps.toList.mapM (λq=>(ev L q.2).map λv=>(q.1,v))=some ((vs.zipIdx 0).map λq=>(q.2,q.1)))
  (ai:vs.length=sz) (al:xs.length=sz) (am:K6 pp E xs vs) (ap:Au E H S)
  (h:∀r seg,OL e pp E (some ⟨r,0,none⟩) sz seg xs->Au E H (S++ [seg])->JL J Q b n (AB L d (.slice (some ⟨r,0,none⟩) xs.length sz)) ds (.inRegion ops rest::k) cs (Ak E H (S++ [seg]))):
  JL J Q b n L ds (.inRegion ops (i::rest)::k) cs (Ak E H S):=by
 exact JL.op K hw O λρ aq=>Sa aq vs xs U Y Z ac ag ai al am ap h
theorem OL.get{pp:Rp α}{a:Option Addr}{xs:List α}{m:Nat}{x:α}(Z:OL e pp E a c seg xs)(hm:xs[m]?=some x):
  ∃bk f ws,a=some ⟨bk,0,none⟩/\seg=[(bk,.cells f e (0,0))]/\pp.r E ws x/\(∀j w,ws[j]?=some w->f[m*pp.n+j]?=some w)/\(m+1)*pp.n<=f.size/\
   ∀(x':α) (ws':Lv_),pp.r E ws' x'->OL e pp E a c [(bk,.cells (A9 f (m*pp.n) ws') e (0,0))] (xs.set m x'):=by
 obtain⟨wss,Z,al,ac⟩:=Z;have am:m<xs.length:=(d0.1 hm).1;rcases Z with⟨ag,ap,_⟩ | ⟨bk,f,ag,ap,a1,aq,av⟩;omega
 have hw:wss[m]?=some wss[m]:=d6 (by omega);have aw:=IW al ac;have hle:(m+1)*pp.n<=xs.length*pp.n:=qR _ am;have a4:xs.length*pp.n<=c*pp.n:=qR _ aq;refine⟨bk,f,wss[m],ag,ap,ac m x _ hm hw,λj w K=>?_,by omega,λx' ws' ay=>?_⟩;have:=Lq aw hw j w K;rw[av,rq] at this;split at this;simpa using this;cases this
 .have az:ws'.length=pp.n:=pp.len ay;refine⟨wss.set m ws',.inr ⟨bk,_,ag,V,by rw[Na];exact a1,by simpa using aq,?_⟩,by simpa using al,λi y us Y hu=>?_⟩
  .simp only [qa];have key:∀(wss:List (Lv_)) (m:Nat) (hm:m<wss.length),(∀ws∈wss,ws.length=pp.n)->∀j,(wss.set m ws').flatten[j]?=if m*pp.n<=j/\j<(m+1)*pp.n then ws'[j - m*pp.n]? else wss.flatten[j]? :=by
    intro wss
    induction wss with
    | nil=>intro m hm;simp at hm
    | cons us wss ai=>
     intro m hm a0 j;have hu:us.length=pp.n:=a0 us (by simp);cases m with
     | zero=>
      simp only[sd,qC,se,qV,true_and,rO,Nat.one_mul,sg];split;rename_i K;rw[p8 (by omega)];rename_i K;rw[nL (by omega),nL (by omega),az,hu]
     | succ m=>
      simp only[ta,qC];have O:(m+1)*pp.n=m*pp.n+pp.n:=rf _ _;have e2:(m+1+1)*pp.n=(m+1)*pp.n+pp.n:=rf _ _;rcases gD j us.length with K | K;rw[p8 K,p8 K,d9 (by omega)];rw[nL K,nL K,ai m (by simpa using hm) (λws a2=>a0 ws (f8 _ a2))];by_cases U:m*pp.n<=j - us.length/\j - us.length<(m+1)*pp.n;rw[d7 U,d7 (by omega)];congr 1;omega;rw[d9 U,d9 (by omega)]
   have a3:∀(vs:Lv_) (c:Av_) (off:Nat),off+vs.length<=c.size->∀j,(A9 c off vs)[j]?=if off<=j/\j<off+vs.length then vs[j - off]? else c[j]? :=by
    intro vs
    induction vs with
    | nil=>intro c off _ j;simp[A9];omega
    | cons w vs ai=>
     intro c off U j;simp only[A9,qz] at*;rw[ai _ _ (by simp;omega)];by_cases O:j=off;subst O;rw[d9 (by omega),d7 (by omega),tf,ri,pn (by omega)]
     .by_cases e2:off+1<=j/\j<off+1+vs.length
      .rw [d7 e2,d7 (by omega)];have:j - off=(j - (off+1))+1:=by omega
       rw[this];simp
      .rw [d9 e2,d9 (by omega),mt (by omega)]
   apply q3;intro j;have O:(m+1)*pp.n=m*pp.n+pp.n:=rf _ _;have t1:(A9 f (m*pp.n) ws').toList[j]?=(A9 f (m*pp.n) ws')[j]? :=qU;have t2:f.toList[j]?=f[j]? :=qU;rw[key wss m (by omega) aw,rq,t1,a3 ws' f (m*pp.n) (by omega),av,rq,t2,az];by_cases U:m*pp.n<=j/\j<(m+1)*pp.n;rw[d7 U,d7 (by omega),d7 (by omega)];rw[d9 U,d9 (show ¬(m*pp.n<=j/\j<m*pp.n+pp.n) by omega)]
  .rw [qT] at Y hu;by_cases O:m=i;subst O;rw[d7 rfl,d7 am] at Y;rw[d7 rfl,d7 (by omega)] at hu;cases Y;cases hu;exact ay;rw[d9 O] at hu Y;exact ac i y us Y hu
theorem Kf{pp:Rp α}{a:Option Addr}{xs:List α}{xv:α}{m:Int}(j:Nat)(O:OL e pp E a c seg xs)(hm:ix xs m=some xv)(U:S[j]?=some seg)
  (Y:ops[i]?=some ⟨d,.indexAddr t x y,ty,p,af,g⟩) (hw:AY L ops ⟨d,.indexAddr t x y,ty,p,af,g⟩=some true) (Z:BX b n ⟨d,.indexAddr t x y,ty,p,af,g⟩=true)
  (ac:ev L x=some (.slice a xs.length c)) (ag:ev L y=some (.int kd m)) (ai:P.underlying t=some (.slice e)) (al:Bz P e=some pp.n)
  (h:∀bk o f ws,S[j]?=some [(bk,.cells f e (0,0))]->pp.r E ws xv->(∀j w,ws[j]?=some w->f[o+j]?=some w)->o+pp.n<=f.size->(∀(x':α) (ws':Lv_),pp.r E ws' x'->OL e pp E a c [(bk,.cells (A9 f o ws') e (0,0))] (xs.set m.toNat x'))->o=m.toNat*pp.n->a=some ⟨bk,0,none⟩->
   JL J Q b n (AB L d (.pointer (some ⟨bk,o,none⟩))) ds (.inRegion ops rest::k) cs (Ak E H S)):
  JL J Q b n L ds (.inRegion ops (i::rest)::k) cs (Ak E H S):=by
 obtain⟨m,rfl,hm⟩:=Gj hm;have az:m<xs.length:=(d0.1 hm).1;obtain⟨bk,f,ws,rfl,rfl,am,ap,aq,av⟩:=OL.get O hm;have aw:(m+1)*pp.n=m*pp.n+pp.n:=rf _ _;have ay:m*pp.n+pp.n<=f.size:=by rw[← aw];exact aq
 refine Bl (v:=.pointer (some ⟨bk,m*pp.n,none⟩)) Y hw Z (λρ K=>?_) (h bk (m*pp.n) f ws U am ap ay (by simpa using av) (by simp) V);have:=Ng (P:=P) (s:=Ak E H S) (d:=d) (ty:=ty) (p:=p) (af:=af) (g:=g) ai al (K x _ ac) (K y _ ag) ⟨by omega,by omega⟩;rw[Et rfl] at this;simpa using this
end
section
variable {b:Frame}{n:Nat}
variable {x:Operand}{v:Value}{i:Nat}
theorem JS.perm(K:S.flatten.Perm S'.flatten)(O:Au E H S)(h:Au E H S'->JL J Q b n L ds todo cs (Ak E H S')):JL J Q b n L ds todo cs (Ak E H S):=by
 have U:Au E H S':=Nd.perm O K;rw[show Ak E H S=Ak E H S' from FG O K];exact h U
theorem GN{A B:Seg}(j:Nat)(K:S[j]?=some (A++B))(O:Au E H S)(h:Au E H (S.set j A++ [B])->JL J Q b n L ds todo cs (Ak E H (S.set j A++ [B]))):JL J Q b n L ds todo cs (Ak E H S):=by
 refine JS.perm ?_ O h;have U:=(Dm (seg':=A) K).1;have Y:=(Dm (seg':=A) K).2;rw[Gh];refine U.trans ?_;have Z:=Y.symm.append_right B
 rwa[pE] at Z
theorem JS.swap{A B:Seg}(j l:Nat)(O:S[j]?=some A)(U:S[l]?=some B)(Y:(j==l)=false)(Z:Au E H S)(h:Au E H ((S.set j B).set l A)->JL J Q b n L ds todo cs (Ak E H ((S.set j B).set l A))):JL J Q b n L ds todo cs (Ak E H S):=by
 have K:j≠l:=by simpa using Y
 refine JS.perm ?_ Z h;have a1:=(Dm (seg':=B) O).1;have ac:(S.set j [])[l]?=some B:=by rw[qD K];exact U
 have ag:=(Dm (seg':=A) ac).1;have ai:((S.set j B).set l A)[l]?=some A:=by
  have:l<(S.set j B).length:=by rw[qa];exact(d0.1 U).1
  rw[qT,d7 rfl,d7 this]
 have c1:=(Dm (seg':=A) ai).1;rw[rJ] at c1;have al:((S.set j B).set l [])[j]?=some B:=by
  have:j<S.length:=(d0.1 O).1;rw[qD (qH K)];simp[this]
 have c2:=(Dm (seg':=B) al).1;have am:(((S.set j B).set l []).set j [])=((S.set j []).set l []):=by
  rw[sJ _ _ K,rJ,sJ _ _ K.symm]
 rw[am] at c2;exact a1.trans ((ag.append_right A).trans ((c2.symm.append_right A).trans c1.symm))
theorem Hq{bk:Nat}{c:Av_}{f:Nat×Nat}{vs:Lv_}(j:Nat)(K:Au E H S)(O:S[j]?=some ((bk,.cells c e f)::seg))(U:(c.toList.drop off).take vs.length=vs):∀i v,vs[i]?=some v->(Ak E H S).cell? (Addr.add ⟨bk,off,none⟩ i)=some v:=
 YQ K O λi v hi=>by
  have Y:i<vs.length:=(d0.1 hi).1
  rw[← U,List.getElem?_take_of_lt Y,tM,qU] at hi
  exact hi
theorem Ni(vs:Lv_):∀(c:Av_) (off:Nat),off+vs.length<=c.size->∀j,(A9 c off vs)[j]?=if off<=j/\j<off+vs.length then vs[j - off]? else c[j]? :=by
 induction vs with
 | nil=>intro c off _ j;simp[A9];omega
 | cons w vs K=>
  intro c off U j;simp only[A9,qz] at*;rw[K _ _ (by simp;omega)];by_cases O:j=off;subst O;rw[d9 (by omega),d7 (by omega),tf,ri,pn (by omega)]
  .by_cases e2:off+1<=j/\j<off+1+vs.length
   .rw [d7 e2,d7 (by omega)];have:j - off=(j - (off+1))+1:=by omega
    rw[this];simp
   .rw [d9 e2,d9 (by omega),mt (by omega)]
end
theorem elim_inl{K:Type}{f:α->Option K}{g:β->Option K}{x:α}{r:K}(h:Sum.elim f g (.inl x)=some r):f x=some r:=h
theorem elim_inr{K:Type}{f:α->Option K}{g:β->Option K}{x:β}{r:K}(h:Sum.elim f g (.inr x)=some r):g x=some r:=h
def room{α:Type}(xs:List α)(x:α):Option (List α):=if xs.length+1<=2^40 then some (xs++ [x]) else none
theorem Z7{xs ys:List α}{x:α}(h:room xs x=some ys):xs.length+1<=2^40/\ys=xs++ [x]:=by
 unfold room at h;split at h;rename_i hb;exact⟨hb,(f6 h).symm⟩;cases h
def Qr(a b:Int):Option Int:=if b=0 then none else some (a.tmod b)
def Qb(a b:Nat):Option Nat:=if b=0 then none else some (a%b)
section
variable {x:Operand}{v:Value}{m:Int}{a b:Nat}
theorem eF(K:ρ x=iV m)(O:ρ y=iV m')(h:Qr m m'=some r):Yl P ⟨d,.binOp .rem t x y u,ty,p,af,g⟩ ρ s (iV r):=by
 unfold Qr at h;split at h;cases h;rename_i U;cases h;exact Yl.rem K O U
theorem ao{r:Nat}(K:ρ x=.int .u64 (a:Int))(O:ρ y=.int .u64 (b:Int))(h:Qb a b=some r):Yl P ⟨d,.binOp .rem t x y u,ty,p,af,g⟩ ρ s (.int .u64 (r:Int)):=by
 unfold Qb at h;split at h;cases h;rename_i U;cases h;exact cQ K O U
theorem Yl.min2(K:ρ x=iV m)(O:ρ y=iV m'):Yl P ⟨d,.call ⟨.builtin .min,#[x,y],ats⟩,ty,p,af,g⟩ ρ s (iV (min m m')):=by
 have e:(if m'<m then m' else m)=min m m':=by split<;>omega
 simp[Yl,execOp,lp,pure,bind,Sem.bind,K,O,resolve,invoke,builtin,Builtin.min_,Builtin.min2,e]
theorem Yl.max2(K:ρ x=iV m)(O:ρ y=iV m'):Yl P ⟨d,.call ⟨.builtin .max,#[x,y],ats⟩,ty,p,af,g⟩ ρ s (iV (max m m')):=by
 have e:(if m<m' then m' else m)=max m m':=by split<;>omega
 simp[Yl,execOp,lp,pure,bind,Sem.bind,K,O,resolve,invoke,builtin,Builtin.max_,Builtin.max2,e]
end
def MP(P:Program):List Field->List (Nat×Nat)->Prop
 | f::K,(o,n)::ps=>f.offset=o/\Bz P f.type=some n/\MP P K ps
 | [],[]=>True
 | _,_=>False
theorem MP.mapM{P:Program}:∀{K:List Field}{ps:List (Nat×Nat)},MP P K ps->K.mapM (λf=>(Bz P f.type).map λn=>(f.offset,n))=some ps
 | [],[],_=>rfl
 | [],_::_,h=>h.elim
 | _::_,[],h=>h.elim
 | f::K,(o,n)::ps,h=>by
  obtain⟨O,U,Y⟩:=h
  simp only[tK,bind,U,ra,Option.bind_some,MP.mapM Y,O];rfl
theorem Q7{L:Env}{ρ:Operand->Value}(h:Fa L ρ):∀{l:List (Nat×Operand)}{vs:List (Nat×Value)},l.mapM (λq=>(ev L q.2).map λv=>(q.1,v))=some vs->l.map (λ(j,x)=>(j,ρ x))=vs
 | [],vs,e=>by simp at e;subst e;rfl
 | q::l,vs,e=>by
  simp only[tK,bind] at e
  cases K:ev L q.2 with
  | none=>rw[K] at e;simp at e
  | some w=>
   rw[K] at e
   simp only[ra,Option.bind_some] at e
   let⟨Y,U,O⟩:=bind_some e
   simp at O;subst O
   simp[Q7 h U,h _ _ K]
theorem C5{P:Program}{s:St}{ρ:Operand->Value}{L:Env}{d:Option Tmp}{t ty:TypeId}{p:String}{af:Ae_}{g:On_}{z:Value}{K:Array Field}{vs:List (Nat×Value)}{cells:Av_}(places:List (Nat×Nat))(h:Fa L ρ)(O:zeroOf P t=some z)(U:P.underlying t=some (.struct K))(Y:MP P K.toList places)
  (Z:ps.toList.mapM (λq=>(ev L q.2).map λv=>(q.1,v))=some vs) (ac:LR (places.toArray[·]?) z.cells vs=some cells):Yl P ⟨d,.build t ps,ty,p,af,g⟩ ρ s (.agg cells):=
 Yl.build (places:=places.toArray) O U (by simpa using Y.mapM) (Q7 h Z) (by rw[fill_eq];exact ac)
theorem OL.again{e:TypeId}{pp:Rp α}{E:LH}{a:Option Addr}{bk o:Nat}{f:Av_}{xs:List α}{m:Int}{x:α}(O:OL e pp E a c [(bk,.cells f e (0,0))] xs)(hm:ix xs m=some x)(U:o=m.toNat*pp.n):
  ∃ws,pp.r E ws x/\(∀j w,ws[j]?=some w->f[o+j]?=some w)/\o+pp.n<=f.size/\∀(x':α) (ws':Lv_),pp.r E ws' x'->OL e pp E a c [(bk,.cells (A9 f o ws') e (0,0))] (xs.set m.toNat x'):=by
 obtain⟨m,rfl,hm⟩:=Gj hm;let⟨am,ap,ws,aq,K,Y,Z,ac,ag⟩:=OL.get O hm;simp only[tz,fZ,Obj.cells.injEq,uz] at K;obtain⟨rfl,rfl⟩:=K;have ai:(m+1)*pp.n=m*pp.n+pp.n:=rf _ _;have al:o=m*pp.n:=by simpa using U
 subst al;exact⟨ws,Y,Z,by rw[← ai];exact ac,by simpa using ag⟩
section
variable {b:Frame}{n:Nat}
variable {x:Operand}{v:Value}{i:Nat}
theorem JS.app{pp:Rp α}{t1 t2:TypeId}{a:Option Addr}{xs ys:List α}{xv:α}{id:Nat}{O:TypeId}{U:String}{Y:Ae_}{z:Value}(j:Nat)(ai:room xs xv=some ys)
  (al:ops[i]?=some ⟨some d1,.buildSlice t2 1 #[(0,y)],O,U,Y,g'⟩) (hw:AY L ops ⟨some d1,.buildSlice t2 1 #[(0,y)],O,U,Y,g'⟩=some true) (am:BX b n ⟨some d1,.buildSlice t2 1 #[(0,y)],O,U,Y,g'⟩=true)
  (ap:ops[id]?=some ⟨d,.call ⟨.builtin .append,#[x,.tmp d1],ats⟩,ty,p,af,g⟩) (aq:∀w,AY (AB L (some d1) w) ops ⟨d,.call ⟨.builtin .append,#[x,.tmp d1],ats⟩,ty,p,af,g⟩=some true) (av:BX b n ⟨d,.call ⟨.builtin .append,#[x,.tmp d1],ats⟩,ty,p,af,g⟩=true)
  (aw:∀w,ev (AB L (some d1) w) x=some (.slice a xs.length c)) (ay:ev L y=some v) (az:ats[0]?=some t) (a0:ats[1]?=some t1) (a1:P.underlying t=some (.slice e)) (a2:P.underlying t1=some (.slice e)) (a3:P.underlying t2=some (.slice e)) (a4:Bz P e=some pp.n) (hb:F6 P e=some sz) (a5:zeroOf P e=some z) (a6:z.cells.size=pp.n)
  (a7:0<sz) (a8:sz<=64) (a9:0<pp.n) (bb:pp.n<=64) (be:OL e pp E a c seg xs) (bi:pp.r E v.cells.toList xv) (bn:Au E H S) (bo:S[j]?=some seg)
  (h:∀w ac ag seg',OL e pp E ac ag seg' ys->Au E H (S.set j seg')->JL J Q b n (AB (AB L (some d1) w) d (.slice ac ys.length ag)) ds (.inRegion ops rest::k) cs (Ak E H (S.set j seg'))):
  JL J Q b n L ds (.inRegion ops (i::id::rest)::k) cs (Ak E H S):=by
 obtain⟨bv,rfl⟩:=Z7 ai;exact YC j al hw am ap aq av aw ay az a0 a1 a2 a3 a4 hb a5 a6 a7 a8 a9 bb bv be bi bn bo h
theorem BS(K:S=S')(O:Au E H S)(h:Au E H S'->JL J Q b n L ds todo cs (Ak E H S')):JL J Q b n L ds todo cs (Ak E H S):=by
 subst K;exact h O
theorem T3(K:Au E H S)(h:Au E H (S++ [[]])->JL J Q b n L ds todo cs (Ak E H (S++ [[]]))):JL J Q b n L ds todo cs (Ak E H S):=
 Io (S':=S++ [[]]) (by rw[Gh,qk]) K h
end
theorem Fc.LX{P:Program}{J:Judge P}{f:FuncId}{args:Av_}{s:St}{R:Value->St->Prop}(h:Fc J f args s R)(U:∀v s',R v s'->s'.q=false):Fc J f args s (λv s'=>R v s'/\∃w,Fits s' w):=λQ c cs Y=>
 h Q c cs λv s' K=>by
  by_cases O:∃w,Fits s' w;exact Y v s' ⟨K,O⟩;exact J.step ⟨V,λw f=>absurd ⟨w,f⟩ O,λe=>by have:=U v s' K;subst e;cases this⟩
def Az(l:List Nat):Nat->Bool:=λx=>l.contains x
variable{oi:Oper}
section
variable {b:Frame}{n m fuel:Nat}
variable {x:Operand}{v:Value}{i:Nat}
def GY(ops:Ao_)(listed:Array Bool)(m i:Nat):Bool:=match ops[i]? with
 | some oi=>decide (i<m)&&Region.noSelect ops&& !Ek oi.op&&JD ops listed i oi&&Iv ops listed&&listed.size==ops.size&&(Region.ready .any ops listed).contains i
 | none=>false
theorem bl(m:Nat){id:Nat}(hm:P.follows .mixedOrders=true)(K:(b.kind != .early)=true)
  (O:EB ops m=true) (h:EB ops m=true->AZ J Q b n ds ops k cs m Ec ops.size (Array.replicate ops.size false) L (Ak E H S)):JL J Q b n L ds (.code (.region id ops true)::k) cs (Ak E H S):=
 Rg m Ec V hm K (h O)
theorem T5{i:Nat}(hi:ops[i]?=some oi)(K:GY ops listed m i=true):decide (i<m)=true/\Region.noSelect ops=true/\(!Ek oi.op)=true/\JD ops listed i oi=true/\Iv ops listed=true/\(listed.size==ops.size)=true/\(Region.ready .any ops listed).contains i=true:=by
 simp only[GY,hi,f5] at K;obtain⟨⟨⟨⟨⟨⟨O,U⟩,Y⟩,Z⟩,ac⟩,ag⟩,ai⟩:=K;exact⟨O,U,Y,Z,ac,ag,ai⟩
theorem JG.val(i:Nat)(hi:ops[i]?=some oi)(K:EB ops m=true)(O:GY ops listed m i=true)(U:s.q=false)
  (hw:AY L ops oi=some true) (Y:Bu n oi.dst=true) (Z:∀ρ,Fa L ρ->∀s':St,(∀x o,(BA D s).E x=some o->s'.E x=some o)->Yl P oi ρ s' v)
  (h:AZ J Q b n ds ops k cs m D fuel (Bm listed i) (AB L oi.dst v) s):AZ J Q b n ds ops k cs m D (fuel+1) listed L s:=
 let ⟨ac,ag,ai,al,am,ap,aq⟩:=T5 hi O
 ZS hi ac K ag ai al am ap aq U hw Y (λρ av s' _ aw=>Z ρ av s' aw) h
theorem kj(i:Nat)(hi:ops[i]?=some oi)(K:EB ops m=true)(O:GY ops listed m i=true)(U:s.q=false)
  (hw:AY L ops oi=some false) (Y:Bu n oi.dst=true)
  (h:AZ J Q b n ds ops k cs m D fuel (Bm listed i) (AB L oi.dst undef) s):AZ J Q b n ds ops k cs m D (fuel+1) listed L s:=
 let ⟨Z,ac,ag,ai,al,am,ap⟩:=T5 hi O
 Zp hi Z K ac ag ai al am ap U hw Y h
theorem je{pp:Rp α}{a:Option Addr}{xs:List α}{xv:α}{K:Int}(i:Nat)(Y:Ao pp E a c xs)(O:ix xs K=some xv)
  (Z:ops[i]?=some ⟨d,.indexAddr t x y,ty,p,af,g⟩) (ac:EB ops m=true) (ag:GY ops listed m i=true) (ai:s.q=false)
  (hw:AY L ops ⟨d,.indexAddr t x y,ty,p,af,g⟩=some true) (al:Bu n d=true)
  (am:ev L x=some (.slice a xs.length c)) (ap:ev L y=some (.int kd K)) (aq:P.underlying t=some (.slice e)) (av:Bz P e=some pp.n)
  (h:∀bk o ws,pp.r E ws xv->At E bk o ws->AZ J Q b n ds ops k cs m D fuel (Bm listed i) (AB L d (.pointer (some ⟨bk,o,none⟩))) s):
  AZ J Q b n ds ops k cs m D (fuel+1) listed L s:=by
 obtain⟨K,rfl,O⟩:=Gj O;have aw:K<xs.length:=(d0.1 O).1;obtain⟨a1,⟨rfl,_⟩ | ⟨bk,off,rfl,ay⟩⟩:=Y;simp at aw
 let⟨ws,az,a0⟩:=ay K xv O;refine JG.val (v:=.pointer (some ⟨bk,off+K*pp.n,none⟩)) i Z ac ag ai hw al (λρ U s' _=>?_) (h bk _ ws az a0);have:=Ng (P:=P) (s:=s') (d:=d) (ty:=ty) (p:=p) (af:=af) (g:=g) aq av (U x _ am) (U y _ ap) ⟨by omega,by omega⟩;rw[Et rfl] at this;simpa using this
theorem JG.call{f:FuncId}{vs:Lv_}(Y:AW J f vs E [] R)(Z:Region.ready .any ops listed=[i])
  (ac:ops[i]?=some ⟨d,.call ⟨.value (.func f),args,ats⟩,ty,p,af,g⟩) (ag:Bu n d=true) (hw:AY L ops ⟨d,.call ⟨.value (.func f),args,ats⟩,ty,p,af,g⟩=some true) (hb:Ei P f=true) (ai:evs L args.toList=some vs) (al:Au E H S)
  (am:∀v E' seg',Le E E'->R v E' seg'->Au E' H (S++ [seg'])->AZ J Q b n ds ops k cs m Ec fuel (Bm listed i) (AB L d v) (Ak E' H (S++ [seg']))):
  AZ J Q b n ds ops k cs m Ec (fuel+1) listed L (Ak E H S):=by
 have ap:=Fc.LX (Y (Bg S.flatten H) trivial) (by rintro v s' ⟨E',B',_,_,_,rfl⟩;rfl);refine AZ.call V Z ac ag hw hb ai ap ?_;rintro v a1 ⟨⟨E',B',hle,aq,av,rfl⟩,w,aw⟩;have e2:mk E' (Bg S.flatten H) B'=mk E' H (B'++S.flatten):=by unfold mk;rw[Ge]
 have ay:Nd E' H S.flatten:=Nd.grow al λx K=>by
  have az:=aw.d x K;have a0:Bg B' (Bg S.flatten H) x=none:=az;exact(Ij a0).1
 have O:Nd E' H (B'++S.flatten):=Nd.glue av ay;have U:(B'++S.flatten).Perm (S++ [B']).flatten:=by rw[Gh];exact no
 rw[e2,FG O U];exact⟨V,λx o K=>hle x o K,am v E' B' hle aq (Nd.perm O U)⟩
end
theorem PW{E H:LH}{S:List Seg}{bk:Nat}{o:Obj}(K:Au E H S)(O:S[j]?=some ((bk,o)::seg)):E bk=none:=by
 have hm:(bk,o)∈S.flatten:=sa.2 ⟨_,qi O,by simp⟩;exact((Nd.iff.1 K).2 _ hm).1
def Gy{α:Type}(n:Int)(z:α):Option (List α):=if 0<=n/\n<=2^20 then some (List.replicate n.toNat z) else none
def Ds{α:Type}(xs ys:List α):Option (List α):=if xs.length+ys.length<=2^40 then some (xs++ys) else none
def H0{α:Type}(xs:List α)(lo hi:Int):Option (List α):=if 0<=lo/\lo<=hi/\hi<=xs.length then some ((xs.take hi.toNat).drop lo.toNat) else none
section
variable {x:Operand}{v:Value}{m:Int}{a b:Nat}
end
variable {L':Env}
variable{ax:Option Addr}{cx:Nat}
section
variable {b:Frame}{n:Nat}
variable {x:Operand}{v:Value}{i:Nat}
theorem ZI{ρ:Operand->Value}:execOp ρ ⟨d,.makeSlice t x y,ty,p,af,g⟩=(do pure (Next.value (← Instr.makeSlice t (ρ x) (ρ y)))):=by
 simp only[execOp]
theorem QN{α:Type}(w:List α):∀m:Nat,((List.replicate m w).flatten).length=m*w.length
 | 0=>by simp
 | m+1=>by rw[sG,qC,pJ,QN w m,rf,tV]
theorem ck(z:Av_)(O:0<z.size):∀m:Nat,((Array.range (m*z.size)).map (z[· % z.size]!)).toList=(List.replicate m z.toList).flatten:=by
 intro m;apply q3;intro j;simp only[ts,Array.toList_range,qI];by_cases K:j<m*z.size
 .rw [sH K];have Y:j/z.size<m:=(Nat.div_lt_iff_lt_mul O).2 K;have U:j%z.size<z.size:=tl _ O;have hw:(List.replicate m z.toList)[j/z.size]?=some z.toList:=by simp[Y]
  have:=Lq (n:=z.size) (wss:=List.replicate m z.toList) (λws Z=>by rw[r5 Z];simp) hw (j%z.size) z[j%z.size] (by simp[U]);rw[show j/z.size*z.size+j%z.size=j from by rw[Nat.mul_comm];exact Nat.div_add_mod _ _] at this;rw[this];simp[U]
 .have hlen:((List.replicate m z.toList).flatten).length=m*z.size:=by rw[QN];simp
  rw[qy (by simpa using K),qy (by rw[hlen];omega)];rfl
theorem JS.make{pp:Rp α}{z:Value}{Z:α}{m:Int}{xs:List α}(U:Gy m Z=some xs)
  (aq:ops[i]?=some ⟨d,.makeSlice t x y,ty,p,af,g⟩) (hw:AY L ops ⟨d,.makeSlice t x y,ty,p,af,g⟩=some true) (av:BX b n ⟨d,.makeSlice t x y,ty,p,af,g⟩=true)
  (aw:ev L x=some (iV m)) (Y:ev L y=some (iV m)) (ay:P.underlying t=some (.slice e)) (az:Bz P e=some pp.n) {O:Nat}(hb:F6 P e=some O) (bb:O<=64) (a0:zeroOf P e=some z) (be:0<pp.n) (ac:pp.r E z.cells.toList Z) (a1:Au E H S)
  (h:∀r seg,OL e pp E (some ⟨r,0,none⟩) xs.length seg xs->Au E H (S++ [seg])->JL J Q b n (AB L d (.slice (some ⟨r,0,none⟩) xs.length xs.length)) ds (.inRegion ops rest::k) cs (Ak E H (S++ [seg]))):
  JL J Q b n L ds (.inRegion ops (i::rest)::k) cs (Ak E H S):=by
 unfold Gy at U;split at U
 rotate_left
 .cases U
 rename_i hm;cases U;refine JL.op aq hw av λρ ag=>?_;rw[ZI,ag x _ aw,ag y _ Y];refine AA _ _ ?_;unfold Instr.makeSlice;refine AA _ _ (CE ay ?_);simp only[asInt,IN];let⟨inf,a2,a3⟩:=QY hb;refine AA (x:=typeInfo e) _ (Lo a2 ?_);simp only[a3,KL (show -9223372036854775808<=m/\m<=9223372036854775807 by omega)];have bi:(O:Int)*m<=64*2^20:=by
  have ai:(O:Int)*m<=64*m:=Int.mul_le_mul_of_nonneg_right (by omega) hm.1;omega
 have a4:((decide (m<0) || decide ((O:Int)*m>2^48)) || decide (m<0) || decide (m>m))=false:=by
  simp only[Bool.or_eq_false_iff,t8];omega
 rw[a4];simp only[qe,qY];refine AA (x:=askRoom _) _ ?_;have a5:∀{Q:Unit->St->Prop}{X:Halt->St->Prop}(w:Nat),Q () (Ak E H S)->lp P (askRoom w) (Ak E H S) Q X:=by
  intro Q X w al;unfold askRoom;split;exact⟨.inl ⟨V,V⟩,al⟩;exact al
 refine a5 _ (AA (x:=Go.sizeOf e) _ (FA az ?_));have am:z.cells.size=pp.n:=by simpa using pp.len ac
 have fin:∀K:Av_,((Array.range (m.toNat*pp.n)).map (K[· % K.size]!)).toList=(List.replicate m.toNat z.cells.toList).flatten->lp P (do let a ← newRow e ((Array.range (m.toNat*pp.n)).map (K[· % K.size]!));pure (Value.slice (some a) m.toNat m.toNat)) (Ak E H S) (λa s'=>lp P (pure (Next.value a)) s' (λa6 s'=>match a6 with
   | .value v=>JL J Q b n (AB L d v) ds (.inRegion ops rest::k) cs s'
   | .skip=>JL J Q b n (AB L d undef) ds (.inRegion ops rest::k) cs s'
   | _=>False) (λ_ _=>False)) (λ_ _=>False):=by
  intro K a7;refine AA _ _ (Ka a1 λr ap=>?_);rw[(F2 ap).1];have bn:((Array.range (m.toNat*pp.n)).map (K[· % K.size]!)).size=m.toNat*pp.n:=by simp
  have:=h r _ ⟨List.replicate m.toNat z.cells.toList,.inr ⟨r,_,rfl,rfl,by simp,by simp,by
   rw[a7,rj (by rw[QN];simp[am])]⟩,by simp,λi y us Y hu=>by
    have:=qi Y;have a8:=r5 this
    have:=qi hu;have e2:=r5 this
    subst a8 e2;exact ac⟩ (F2 ap).2
  simp only[sn] at this;exact this
 split
 .rename_i a9;have ai:m.toNat=0:=by rcases Nat.mul_eq_zero.1 a9 with h | h<;>omega
  exact fin #[] (by simp[ai])
 .refine AA (x:=zeroValue e) _ (Ik a0 ?_);refine fin z.cells ?_;rw[← am];exact ck z.cells (by omega) _
theorem OX{pp:Rp α}(O:ops[i]?=some ⟨d,.buildSlice t 0 #[],ty,p,af,g⟩)(hw:AY L ops ⟨d,.buildSlice t 0 #[],ty,p,af,g⟩=some true)(U:BX b n ⟨d,.buildSlice t 0 #[],ty,p,af,g⟩=true)
  (Y:P.underlying t=some (.slice e)) (Z:Bz P e=some pp.n) (ac:Au E H S)
  (h:∀r seg,OL e pp E (some ⟨r,0,none⟩) 0 seg []->Au E H (S++ [seg])->JL J Q b n (AB L d (.slice (some ⟨r,0,none⟩) 0 0)) ds (.inRegion ops rest::k) cs (Ak E H (S++ [seg]))):
  JL J Q b n L ds (.inRegion ops (i::rest)::k) cs (Ak E H S):=by
 refine JL.op O hw U λρ ai=>?_;rw[TY];refine AA _ _ ?_;unfold Instr.buildSlice;refine AA _ _ (CE Y ?_);refine AA _ _ (FA Z ?_);rw[d9 (by omega),d7 (by omega)];refine AA (x:=pure #[]) _ ?_;simp only[lp,pure,List.map_toArray,uw,Instr.fill];refine AA _ _ (Ka ac λr K=>?_);rw[(F2 K).1];exact h r _ ⟨[],.inr ⟨r,_,V,V,by simp,oU _,by simp⟩,V,λi x ws ag=>by simp at ag⟩ (F2 K).2
theorem Ao.rows{pp:Rp α}{a:Option Addr}{xs:List α}(U:Ao pp E a c xs):∃wss:List (Lv_),wss.length=xs.length/\(∀(i:Nat) x ws,xs[i]?=some x->wss[i]?=some ws->pp.r E ws x)/\
  ((xs=[]/\∀ad:Addr,a=some ad->ad.spot=none∨c=0)∨∃bk off,a=some ⟨bk,off,none⟩/\∀(i:Nat) ws,wss[i]?=some ws->At E bk (off+i*pp.n) ws):=by
 obtain⟨ag,U⟩:=U;rcases U with⟨rfl,Z⟩ | ⟨bk,off,rfl,ac⟩;exact⟨[],V,λi x ws O=>by simp at O,.inl ⟨V,Z⟩⟩
 .have Y:∀i:Fin xs.length,∃ws,pp.r E ws xs[i]/\At E bk (off+i*pp.n) ws:=λi=>ac i xs[i] (d6 i.2);refine⟨List.ofFn λi=>Classical.choose (Y i),by simp,λi x ws O hw=>?_,.inr ⟨bk,off,V,λi ws hw=>?_⟩⟩;have K:i<xs.length:=(d0.1 O).1;simp[K] at hw;subst hw;rw[d6 K] at O;cases O;exact(rm (Y ⟨i,K⟩)).1
  .have K:i<xs.length:=by have:=(d0.1 hw).1;simpa using this
   simp[K] at hw;subst hw;exact(rm (Y ⟨i,K⟩)).2
theorem M8{n:Nat}:∀{wss:List (Lv_)},(∀ws∈wss,ws.length=n)->wss.flatten.length=wss.length*n
 | [],_=>by simp
 | ws::wss,h=>by rw[qC,pJ,h ws (by simp),M8 λw hw=>h w (f8 _ hw),qz,rf,tV]
theorem QL{n:Nat}:∀{wss:List (Lv_)},(∀ws∈wss,ws.length=n)->∀{j:Nat}{w:Value},wss.flatten[j]?=some w->∃(i m:Nat) (ws:Lv_),wss[i]?=some ws/\ws[m]?=some w/\j=i*n+m
 | [],_,_,_,h=>by simp at h
 | us::wss,O,j,w,h=>by
  have hu:=O us (by simp)
  rw[qC] at h
  rcases gD j us.length with K | K
  .rw [p8 K] at h
   exact⟨0,j,us,V,h,by simp⟩
  .rw [nL K] at h;let⟨i,m,ws,U,Y,Z⟩:=QL (λws hw=>O ws (f8 _ hw)) h;exact⟨i+1,m,ws,by simpa using U,Y,by rw[rf];omega⟩
theorem Oz{pp:Rp α}{O:List (Lv_)}{xs ys:List α}(U:wss.length=xs.length)(h:∀(i:Nat) x ws,xs[i]?=some x->wss[i]?=some ws->pp.r E ws x)(Y:∀(i:Nat) x ws,ys[i]?=some x->O[i]?=some ws->pp.r E ws x):
  ∀(i:Nat) y us,(xs++ys)[i]?=some y->(wss++O)[i]?=some us->pp.r E us y:=by
 intro i y us K hu;rcases gD i xs.length with hi | hi;rw[p8 hi] at K;rw[p8 (by omega)] at hu;exact h i y us K hu;rw[nL hi] at K;rw[nL (by omega),U] at hu;exact Y _ y us K hu
theorem YB{e t t1:TypeId}{aw l m:Nat}{a:Option Addr}{blk:List (Nat×Obj)}{xs ys:Lv_}{i:Nat}{rest:List Nat}{d:Option Tmp}{x y:Operand}{ty:TypeId}{p:String}{af:Ae_}{g:On_}{z:Value}{B1:List (Nat×Obj)}
  (a6:ops[i]?=some ⟨d,.call ⟨.builtin .append,#[x,y],ats⟩,ty,p,af,g⟩) (hw:AY L ops ⟨d,.call ⟨.builtin .append,#[x,y],ats⟩,ty,p,af,g⟩=some true) (a7:BX b n ⟨d,.call ⟨.builtin .append,#[x,y],ats⟩,ty,p,af,g⟩=true)
  (a8:ev L x=some (.slice a l c)) (a9:ev L y=some (.slice ax m cx)) (bb:ats[0]?=some t) (be:ats[1]?=some t1) (bi:P.underlying t=some (.slice e)) (bn:P.underlying t1=some (.slice e)) (bo:Bz P e=some sz) (hb:F6 P e=some aw) (bv:zeroOf P e=some z) (bw:z.cells.size=sz)
  (bx:0<aw) (bz:aw<=64) (b0:l+m<=2^40) (b1:∀w∈ys,CM w=true) (ap:GS e sz a l c blk xs) (ay:Nd E H (B0++blk++B1)) (az:IA (mk E H (B0++blk++B1)) (.slice ax m cx) sz ys)
  (h:∀a3 aq a0,GS e sz a3 (l+m) aq a0 (xs++ys)->Nd E H (B0++a0)->JL J Q b n (AB L d (.slice a3 (l+m) aq)) ds (.inRegion ops rest::k) cs (mk E H (B0++a0))):
  JL J Q b n L ds (.inRegion ops (i::rest)::k) cs (mk E H (B0++blk++B1)):=by
 refine JL.op a6 hw a7 λρ a4=>?_;rw[M7,a4 x _ a8,a4 y _ a9];have b2:Qj (B0++blk++B1) B0.length e sz a l c xs:=by
  rcases ap with⟨K,Y,ag,ai,Z⟩ | ⟨bk,f,K,Y,ag,ai,Z⟩;exact .inl ⟨K,Y,ag,Z⟩;refine .inr ⟨bk,f,K,?_,ag,ai,Z⟩;subst Y;simp
 have hlen:=ap.length;refine AA _ _ (Q6 (pl:=B0.length) bb be bn bi bo hb bv bw ay b2 az b1 bx b0 bz ?_ ?_ ?_)
 ·
  intro bk f O av cc ce b3 a1 a2 ac;rcases ap with⟨K,_⟩ | ⟨U,f0,K,Y,ag,ai,Z⟩;rw[K] at av;cases av
  .subst Y;have b4:U=bk:=by rw[K] at av;simpa using av
   subst b4;have b5:(B0++ [(U,Obj.cells f0 e (0,0))]++B1).set B0.length (U,.cells O e (0,0))=B0++ [(U,.cells O e (0,0))]++B1:=by
    rw[pE,pE];exact HO _ _ _ _
   rw[b5] at ac ⊢;have al:Nd E H (B0++ [(U,.cells O e (0,0))]):=KH.Nd.left ac;refine JL.drop (B0++ [(U,.cells O e (0,0))]) (λp am=>?_) ac (h a c _ (.inr ⟨U,O,K,V,a1,b3,a2.symm⟩) al);exact qF.1 (qZ _ am)
 .intro a5 hm;rcases ap with⟨K,Y,ag,ai,Z⟩ | ⟨U,f0,K,_⟩
  .subst hm;have b6:ys=[]:=by
    cases ax with
    | none=>exact az.2
    | some ad=>have:=az.2.1;simp at this;exact this
   subst Y ai Z b6;have al:Nd E H (B0++ []):=KH.Nd.left ay;exact JL.drop (B0++ []) (λp am=>qF.1 (qZ _ am)) ay (h none 0 [] (by simpa using GS.nil) al)
  .rw [K] at a5;cases a5
 ·
  intro r O aq ca a1 a2 ac;have al:Nd E H (B0++ [(r,.cells O e (0,0))]):=KH.Nd.pick ac;refine JL.drop (B0++ [(r,.cells O e (0,0))]) (λp am=>?_) ac (h (some ⟨r,0,none⟩) aq _ (.inr ⟨r,O,V,V,a1,ca,a2.symm⟩) al);refine qF.1 ?_;rcases gM.1 am with q | q;simp[q];exact qG _ q
theorem Jy{pp:Rp α}{t1:TypeId}{ai:Nat}{a:Option Addr}{xs ys al:List α}{z:Value}(j:Nat)(Y:Ds xs ys=some al)
  (a1:ops[i]?=some ⟨d,.call ⟨.builtin .append,#[x,y],ats⟩,ty,p,af,g⟩) (hw:AY L ops ⟨d,.call ⟨.builtin .append,#[x,y],ats⟩,ty,p,af,g⟩=some true) (a2:BX b n ⟨d,.call ⟨.builtin .append,#[x,y],ats⟩,ty,p,af,g⟩=true)
  (a3:ev L x=some (.slice a xs.length c)) (a4:ev L y=some (.slice ax ys.length cx)) (a5:ats[0]?=some t) (a6:ats[1]?=some t1) (a7:P.underlying t=some (.slice e)) (a8:P.underlying t1=some (.slice e)) (a9:Bz P e=some pp.n) (hb:F6 P e=some ai) (bb:zeroOf P e=some z) (be:z.cells.size=pp.n)
  (bi:0<ai) (bn:ai<=64) (am:OL e pp E a c seg xs) (aq:Ao pp E ax cx ys) (bo:Au E H S) (av:S[j]?=some seg)
  (h:∀Z ac seg',OL e pp E Z ac seg' al->Au E H (S.set j seg')->JL J Q b n (AB L d (.slice Z al.length ac)) ds (.inRegion ops rest::k) cs (Ak E H (S.set j seg'))):
  JL J Q b n L ds (.inRegion ops (i::rest)::k) cs (Ak E H S):=by
 unfold Ds at Y;split at Y
 rotate_left
 .cases Y
 rename_i bv;cases Y;obtain⟨wss,am,aw,bw⟩:=am;let⟨bx,ay⟩:=GM bo av;obtain⟨ag,O,ap,U⟩:=aq.rows;have az:=IW O ap;rw[bx];have bz:∀w∈ag.flatten,CM w=true:=λw hw=>by
  let⟨us,b0,hw⟩:=sa.1 hw;let⟨q,K⟩:=qF.1 b0;have b1:q<ys.length:=by rw[← O];exact(d0.1 K).1
  exact pp.one (ap q _ us (d6 b1) K) w hw
 have hlen:(xs++ys).length=xs.length+ys.length:=by simp
 have a0:IA (mk E H ((S.set j []).flatten++seg)) (.slice ax ys.length cx) pp.n ag.flatten:=by
  rcases U with⟨U,co⟩ | ⟨bk,off,rfl,U⟩
  .subst U;have:ag=[]:=qx O;subst this;cases ax with
   | none=>exact⟨rfl,rfl⟩
   | some ad=>exact⟨.inr rfl,by simp,qV _,λq w K=>by simp at K⟩
  .refine⟨.inl V,by rw[M8 az,O],aq.1,λq w K=>?_⟩;let⟨b2,m,ws,b3,e2,b4⟩:=QL az K;have:=(U b2 ws b3).cell (H:=H) (B:=(S.set j []).flatten++seg) e2;subst b4;rw[← sr];exact this
 have b5:(S.set j []).flatten++seg=(S.set j []).flatten++seg++ []:=(qk _).symm;rw[b5] at ay a0 ⊢;refine YB a1 hw a2 a3 a4 a5 a6 a7 a8 a9 hb bb be bi bn bv bz am ay a0 λZ ac b6 ca cc=>?_;let⟨ce,ci⟩:=IY av cc;rw[ce];have:=h Z ac b6 ⟨wss++ag,by rw[hlen,ru];exact ca,by simp[aw,O],Oz aw bw ap⟩ ci;rw[hlen] at this;exact this
end
section
variable {b:Frame}{n m fuel:Nat}
variable {x:Operand}{v:Value}{i:Nat}
theorem DU(h:Sub L' L)(k':AZ J Q b n ds ops k cs m D fuel listed L' s):AZ J Q b n ds ops k cs m D fuel listed L s:=λT K=>k' T (K.sub h)
theorem Gg{O:Array Bool}(fuel:Nat)(listed:Array Bool)(I:Env->St->Prop)(U:∀L s,I L s->AZ J Q b n ds ops k cs m D fuel listed L s)(h:(∀L s,I L s->AZ J Q b n ds ops k cs m D fuel listed L s)->AZ J Q b n ds ops k cs m D sz O L s):AZ J Q b n ds ops k cs m D sz O L s:=h U
end
variable{kk:Nat}
theorem jw{pp:Rp α}{E:LH}{bk o:Nat}{ws:Lv_}{xs:List α}{m:Int}{x:α}(O:(rA kk pp).r E ws xs)(h:At E bk o ws)(hm:ix xs m=some x):∃us,pp.r E us x/\At E bk (o+m.toNat*pp.n) us/\0<=m/\m<kk:=by
 obtain⟨U,wss,rfl,Y,K⟩:=O;obtain⟨m,rfl,hm⟩:=Gj hm;have ac:m<xs.length:=(d0.1 hm).1;have hw:wss[m]?=some wss[m]:=d6 (by omega);refine⟨wss[m],K m x _ hm hw,?_,by omega,by omega⟩;obtain⟨f,e,fr,g1,g2⟩:=h;refine⟨f,e,fr,g1,λj w Z=>?_⟩;rw[sr];exact g2 _ _ (Lq (IW (Y.trans U.symm) K) hw j w Z)
variable {v':Value}
section
variable {x:Operand}{v:Value}
end
section
variable {b:Frame}{n:Nat}
variable {x:Operand}{i:Nat}
end
variable{X:Halt->St->Prop}
section
variable {x:Operand}{v:Value}
theorem Z8{o:BinOp}{c K:Av_}(O:o=.eql∨o=.neq)(U:P.eqGuardType P.depth t=false){Q:Unit->St->Prop}(k:Q () s):lp P (eqGuard o t x y (.agg c) (.agg K)) s Q X:=by
 rcases O with rfl | rfl<;>(simp[eqGuard,lp,bind,Sem.bind,program,pure,U];exact k)
end
section
variable (J:Judge P)(Q:Gs_)(b:Frame)(n:Nat)(ds:Ld_)(ops:Ao_)(k:Li_)(cs:Lf_)(m:Nat)(D:Nat->Bool)
def Take(fuel:Nat)(listed:Array Bool)(L:Env)(s:St)(i:Nat):Prop:=
 ∃o,ops[i]?=some o/\(!Ek o.op)=true/\Bu n o.dst=true/\AY L ops o=some true/\∀ρ,Fa L ρ->lp P (execOp ρ o) (BA D s) (λO s'=>match O with
  | .value v=>AZ J Q b n ds ops k cs m D fuel (Bm listed i) (AB L o.dst v) (Ct D s s')
  | .skip=>AZ J Q b n ds ops k cs m D fuel (Bm listed i) (AB L o.dst undef) (Ct D s s')
  | .enter f args=>∃R,Fc J f args (Ct D s s') R/\∀v K,R v K->K.q=false/\(∀x o,(BA D s).E x=some o->(BA D K).E x=some o)/\AZ J Q b n ds ops k cs m D fuel (Bm listed i) (AB L o.dst v) K
  | _=>False) (λ_ _=>False)
end
variable{jp:Nat}
section
variable {b:Frame}{n m fuel:Nat}
variable {x:Operand}{v:Value}{i:Nat}
theorem QS(U:s.q=false){l:List Nat}(K:Region.ready .any ops listed=l)(Y:l≠ [])(h:∀i∈l,Take J Q b n ds ops k cs m D fuel listed L s i):AZ J Q b n ds ops k cs m D (fuel+1) listed L s:=
 UK U (by rw[K];exact Y) λi hi o O=>by
  rw[K] at hi
  let⟨o',Z,ac,ag,ai,al⟩:=h i hi
  obtain rfl:o'=o:=by rw[Z] at O;exact f6 O
  exact⟨ac,ag,true,ai,λe=>(by cases e),λ_=>al⟩
theorem JG.one(K:s.q=false)(O:Region.ready .any ops listed=[i])(h:Take J Q b n ds ops k cs m D fuel listed L s i):AZ J Q b n ds ops k cs m D (fuel+1) listed L s:=
 QS K O (by simp) (by simpa using h)
theorem GQ{i:Nat}(K:s.q=false)(O:Region.ready .any ops listed=[i,j])(hi:Take J Q b n ds ops k cs m D fuel listed L s i)(U:Take J Q b n ds ops k cs m D fuel listed L s j):AZ J Q b n ds ops k cs m D (fuel+1) listed L s:=
 QS K O (by simp) (by intro q K;simp at K;rcases K with rfl | rfl<;>assumption)
def plus(E:LH)(bk:Nat)(o:Obj):LH:=λx=>if x=bk then Option.some o else E x
theorem dC{bk:Nat}{o:Obj}(ac:Au E H S)(ag:S[jp]?=Option.some [(bk,o)]):BA (Az [bk]) (Ak E H S)=Ak (plus E bk o) H (S.set jp [])/\Au (plus E bk o) H (S.set jp []):=by
 let⟨al,Y⟩:=GM ac ag;have Z:=Nd.iff.1 Y;have aw:E bk=Option.none:=(Z.2 (bk,o) (by simp)).1;have am:H bk=Option.none:=(Z.2 (bk,o) (by simp)).2;have ai:∀q∈(S.set jp []).flatten,q.1≠bk:=λq O e=>by
  have:=Z.1;rw[qN,qO] at this;exact this.2.2 q.1 (sF O) bk (by simp) e
 have ap:(Ak E H S).get bk=Option.some o:=Dz (i:=0) ac ag V;have aq:∀x,x≠bk->Bg ((S.set jp []).flatten++ [(bk,o)]) H x=Bg (S.set jp []).flatten H x:=λx K=>by
  rw[show Bg ((S.set jp []).flatten++ [(bk,o)]) H=Bg ([(bk,o)]++(S.set jp []).flatten) H from Nb Y no];simp[Bg,K]
 refine⟨?_,?_⟩
 .unfold BA;have av:(λx=>if Az [bk] x=true then(Ak E H S).get x else(Ak E H S).E x)=plus E bk o:=by
   funext x;unfold plus;by_cases K:x=bk;subst K;simp[Az,ap];simp[Az,K];rfl
  have e2:(λx=>if Az [bk] x=true then Option.none else(Ak E H S).H x)=Bg (S.set jp []).flatten H:=by
   funext x;by_cases K:x=bk;subst K;simp[Az];rw[Nf ai,am];simp only[Az,List.contains_cons,List.contains_nil,Bool.or_false,rR,d9 K];rw[al];exact aq x K
  rw[av,e2];rfl
 .have U:Nd E H (S.set jp []).flatten:=KH.Nd.left Y;show Nd _ H (S.set jp []).flatten;rw[Nd.iff] at U ⊢;exact⟨U.1,λq O=>⟨by unfold plus;rw[d9 (ai q O)];exact(U.2 q O).1,(U.2 q O).2⟩⟩
theorem ZO{bk:Nat}{o:Obj}(ap:Au E H S)(aq:S[jp]?=Option.some [(bk,o)])(av:Au (plus E bk o) H S')(Y:S'[jp]?=Option.some []):Ct (Az [bk]) (Ak E H S) (Ak (plus E bk o) H S')=Ak E H (S'.set jp [(bk,o)])/\Au E H (S'.set jp [(bk,o)]):=by
 let⟨aw,ag⟩:=GM ap aq;have ai:=Nd.iff.1 ag;have ay:E bk=Option.none:=(ai.2 (bk,o) (by simp)).1;have az:H bk=Option.none:=(ai.2 (bk,o) (by simp)).2;have Z:(S'.set jp []).flatten=S'.flatten:=by
  have:S'.set jp []=S':=by
   apply q3;intro q;rw[qT];split;rename_i e;subst e;rw[Y,d7 (d0.1 Y).1];rfl
  rw[this]
 have U:=Nd.iff.1 (show Nd _ H S'.flatten from av);have al:∀q∈S'.flatten,q.1≠bk:=λq K e=>by
  have:=(U.2 q K).1;unfold plus at this;rw[d7 e] at this;cases this
 have ac:Nd E H ((S'.set jp []).flatten++ [(bk,o)]):=by
  rw[Z,Nd.iff,qN,qO];refine⟨⟨U.1,by simp,λx O y am e=>?_⟩,λq K=>?_⟩;obtain⟨q,K,rfl⟩:=qK.1 O;simp at am;subst am;exact al q K e
  .rcases gM.1 K with K | K
   .refine⟨?_,(U.2 q K).2⟩;have:=(U.2 q K).1;unfold plus at this
    rwa[d9 (al q K)] at this
   .simp at K;subst K;exact⟨ay,az⟩
 let⟨a0,a1⟩:=IY (seg':=[(bk,o)]) Y ac;refine⟨?_,a1⟩;rw[← a0,Z];unfold Ct Ak mk;congr 1
 .funext x;show(if Az [bk] x=true then E x else plus E bk o x)=E x
  by_cases O:x=bk;subst O;simp[Az];simp[Az,O,plus]
 .funext x;show(if Az [bk] x=true then(Ak E H S).H x else Bg S'.flatten H x)=Bg (S'.flatten++ [(bk,o)]) H x
  have a2:Bg (S'.flatten++ [(bk,o)]) H=Bg ([(bk,o)]++S'.flatten) H:=Nb (by rw[Z] at ac;exact ac) no;rw[a2];by_cases O:x=bk;subst O;simp only[Az,List.contains_cons,beq_self_eq_true,Bool.true_or,q1,qX,qS,Bg];rw[aw];show Bg ((S.set jp []).flatten++ [(x,o)]) H x=_;rw[show Bg ((S.set jp []).flatten++ [(x,o)]) H=Bg ([(x,o)]++(S.set jp []).flatten) H from Nb ag no];simp[Bg];simp[Az,O,Bg]
end
theorem OL.jl{e:TypeId}{pp:Rp α}{E H:LH}{S:List Seg}{a:Option Addr}{xs:List α}(U:OL e pp E0 a c seg xs)(ac:Au E H S)(ag:S[j]?=some seg):∃wss:List (Lv_),IA (Ak E H S) (.slice a xs.length c) pp.n wss.flatten/\wss.length=xs.length/\∀(i:Nat) x ws,xs[i]?=some x->wss[i]?=some ws->pp.r E0 ws x:=by
 obtain⟨wss,U,ai,al⟩:=U;refine⟨wss,?_,ai,al⟩;rcases U with⟨rfl,am,Z,Y,K⟩ | ⟨bk,f,rfl,rfl,Z,Y,K⟩;exact⟨am,K⟩
 .have hle:xs.length*pp.n<=f.size:=by rw[Z];exact qR _ Y
  refine⟨.inl V,by rw[K];simp[hle],Y,λq w O=>?_⟩;rw[K,rq] at O;split at O;refine B8 ac ag ?_;simpa using O;cases O
section
variable {x:Operand}
theorem dz{ρ:Operand->Value}{pp:Rp α}{t1:TypeId}{a0:Nat}{a:Option Addr}{xs ys a1:List α}{z:Value}(j:Nat)(aw:Ds xs ys=some a1)
  (bi:ρ x=.slice a xs.length c) (bn:ρ y=.slice ax ys.length cx) (bo:ats[0]?=some t) (bv:ats[1]?=some t1) (bw:P.underlying t=some (.slice e)) (bx:P.underlying t1=some (.slice e)) (bz:Bz P e=some pp.n) (hb:F6 P e=some a0) (b0:zeroOf P e=some z) (b1:z.cells.size=pp.n)
  (b2:0<a0) (b3:a0<=64) (aq:OL e pp E0 a c seg xs) (b4:∃Z:List (Lv_),IA (Ak E H S) (.slice ax ys.length cx) pp.n Z.flatten/\Z.length=ys.length/\∀(i:Nat) x ws,ys[i]?=some x->Z[i]?=some ws->pp.r E0 ws x) (b5:Au E H S) (a7:S[j]?=some seg)
  (h:∀Y O g seg',OL e pp E0 Y O seg' a1->Au E H (S.set j (g++seg'))->K (.value (.slice Y a1.length O)) (Ak E H (S.set j (g++seg')))):
  lp P (execOp ρ ⟨d,.call ⟨.builtin .append,#[x,y],ats⟩,ty,p,af,g⟩) (Ak E H S) K (λ_ _=>False):=by
 unfold Ds at aw;split at aw
 rotate_left
 .cases aw
 rename_i b6;cases aw;obtain⟨Z,a8,ay,a2⟩:=b4;obtain⟨wss,aq,a9,ca⟩:=aq;let⟨cc,a3⟩:=GM b5 a7;have ce:=IW ay a2;have ci:∀w∈Z.flatten,CM w=true:=λw hw=>by
  let⟨us,co,hw⟩:=sa.1 hw;let⟨q,bb⟩:=qF.1 co;have cp:q<ys.length:=by rw[← ay];exact(d0.1 bb).1
  exact pp.one (a2 q _ us (d6 cp) bb) w hw
 have hlen:(xs++ys).length=xs.length+ys.length:=by simp
 rw[cc] at a8 ⊢;rw[M7,bi,bn];have a4:∀{Y O seg'},GS e pp.n Y (xs.length+ys.length) O seg' (wss.flatten++Z.flatten)->OL e pp E0 Y O seg' (xs++ys):=λct=>
  ⟨wss++Z,by rw[hlen,ru];exact ct,by simp[a9,ay],Oz a9 ca a2⟩
 have fin:∀Y O g seg',OL e pp E0 Y O seg' (xs++ys)->Nd E H ((S.set j []).flatten++(g++seg'))->K (.value (.slice Y (xs.length+ys.length) O)) (mk E H ((S.set j []).flatten++(g++seg'))):=λY O g seg' cw ag=>by
  let⟨cy,c0⟩:=IY a7 ag;rw[cy];have:=h Y O g seg' cw c0;rw[hlen] at this;exact this
 have c1:Qj ((S.set j []).flatten++seg) (S.set j []).flatten.length e pp.n a xs.length c wss.flatten:=by
  rcases aq with⟨U,ac,av,al,am⟩ | ⟨bk,f,U,ac,av,al,am⟩;exact .inl ⟨U,ac,av,am⟩;refine .inr ⟨bk,f,U,?_,av,al,am⟩;subst ac;simp
 refine AA _ _ (Q6 (pl:=(S.set j []).flatten.length) bo bv bx bw bz hb b0 b1 a3 c1 a8 ci b2 b6 b3 ?_ ?_ ?_)
 .intro bk f ai az c8 c9 c2 a5 a6 ag;rcases aq with⟨U,_⟩ | ⟨ap,f0,U,ac,av,al,am⟩;rw[U] at az;cases az
  .subst ac;have c3:ap=bk:=by rw[U] at az;simpa using az
   subst c3;have c4:((S.set j []).flatten++ [(ap,Obj.cells f0 e (0,0))]).set (S.set j []).flatten.length (ap,.cells ai e (0,0))=(S.set j []).flatten++ [(ap,.cells ai e (0,0))]:=HO _ _ _ _;rw[c4] at ag ⊢;exact fin a c [] _ (a4 (.inr ⟨ap,ai,U,V,a5,c2,a6.symm⟩)) ag
 intro be hm;rcases aq with⟨U,ac,av,al,am⟩ | ⟨ap,f0,U,_⟩;have c5:Z.flatten=[]:=qx (by rw[M8 ce,ay,hm];simp);have:=fin none 0 [] [] (a4 (by rw[ac,hm,am,c5];exact GS.nil)) (by rw[al] at a3;simpa using a3);rw[ac,hm] at this;rw[al];simp only[qk] at this ⊢;exact this;rw[U] at be;cases be;intro r ai O c6 a5 a6 ag;have c7:(S.set j []).flatten++seg++ [(r,Obj.cells ai e (0,0))]=(S.set j []).flatten++(seg++ [(r,.cells ai e (0,0))]):=pE _ _ _;rw[c7] at ag ⊢;exact fin (some ⟨r,0,none⟩) O seg _ (a4 (.inr ⟨r,ai,V,V,a5,c6,a6.symm⟩)) ag
theorem VE{ρ:Operand->Value}{pp:Rp α}{t1:TypeId}{a:Option Addr}{Y:Seg}{xs ys U:List α}{z:Value}(j ai:Nat)(al:Ds xs ys=some U)
  (am:ρ x=.slice a xs.length c) (ap:ρ y=.slice ax ys.length cx) (aq:ats[0]?=some t) (av:ats[1]?=some t1) (aw:P.underlying t=some (.slice e)) (ay:P.underlying t1=some (.slice e)) (az:Bz P e=some pp.n) (hb:F6 P e=some sz) (a0:zeroOf P e=some z) (a1:z.cells.size=pp.n)
  (a2:0<sz) (a3:sz<=64) (a4:OL e pp E0 a c seg xs) (a5:OL e pp E0 ax cx Y ys) (Z:Au E H S) (a6:S[j]?=some seg) (a7:S[ai]?=some Y)
  (h:∀ac ag g seg',OL e pp E0 ac ag seg' U->Au E H (S.set j (g++seg'))->K (.value (.slice ac U.length ag)) (Ak E H (S.set j (g++seg')))):
  lp P (execOp ρ ⟨d,.call ⟨.builtin .append,#[x,y],ats⟩,ty,p,af,g⟩) (Ak E H S) K (λ_ _=>False):=
 dz j al am ap aq av aw ay az hb a0 a1 a2 a3 a4 (a5.jl Z a7) Z a6 h
end
section
variable {b:Frame}{n m fuel:Nat}
variable {x:Operand}{v:Value}{i:Nat}
theorem Take.BA{bk:Nat}{o:Obj}(O:Au E H S)(U:S[jp]?=some [(bk,o)])(hi:ops[i]?=some oi)(K:(!Ek oi.op&&Bu n oi.dst)=true)(hw:AY L ops oi=some true)
  (h:∀ρ,Fa L ρ->Au (plus E bk o) H (S.set jp [])->lp P (execOp ρ oi) (Ak (plus E bk o) H (S.set jp [])) (λY s'=>∃v S',Y=.value v/\s'=Ak (plus E bk o) H S'/\Au (plus E bk o) H S'/\S'[jp]?=some []/\
   (Au E H (S'.set jp [(bk,o)])->AZ J Q b n ds ops k cs m (Az [bk]) fuel (Bm listed i) (AB L oi.dst v) (Ak E H (S'.set jp [(bk,o)])))) (λ_ _=>False)):
  Take J Q b n ds ops k cs m (Az [bk]) fuel listed L (Ak E H S) i:=by
 simp only[f5] at K;refine⟨oi,hi,K.1,K.2,hw,λρ Z=>?_⟩;let⟨ac,ag⟩:=dC O U;rw[ac];refine Es _ (h ρ Z ag) ?_ (λ_ _ h=>h);rintro Y s' ⟨v,S',rfl,rfl,ai,al,am⟩;let⟨ap,aq⟩:=ZO O U ai al;show AZ J Q b n ds ops k cs m (Az [bk]) fuel (Bm listed i) (AB L oi.dst v) (Ct (Az [bk]) (Ak E H S) (Ak (plus E bk o) H S'));rw[ap];exact am aq
theorem Take.lit{bk:Nat}{o:Obj}{pp:Rp α}(vs:Lv_){z:Value}(xs:List α)(Y:Au E H S)(K:S[jp]?=some [(bk,o)])
  (Z:ops[i]?=some ⟨d,.buildSlice t sz ps,ty,p,af,g⟩) (hw:AY L ops ⟨d,.buildSlice t sz ps,ty,p,af,g⟩=some true) (ac:Bu n d=true)
  (ag:P.underlying t=some (.slice e)) (ai:Bz P e=some pp.n) (al:zeroOf P e=some z) (am:decide (0<sz*pp.n/\sz*pp.n<=2^24)=true)
  (ap:ps.toList.mapM (λq=>(ev L q.2).map λv=>(q.1,v))=some ((vs.zipIdx 0).map λq=>(q.2,q.1)))
  (aq:vs.length=sz) (av:xs.length=sz) (aw:K6 pp E xs vs)
  (h:∀r seg,OL e pp E (some ⟨r,0,none⟩) sz seg xs->Au E H (S++ [seg])->AZ J Q b n ds ops k cs m (Az [bk]) fuel (Bm listed i) (AB L d (.slice (some ⟨r,0,none⟩) xs.length sz)) (Ak E H (S++ [seg]))):
  Take J Q b n ds ops k cs m (Az [bk]) fuel listed L (Ak E H S) i:=by
 have O:jp<S.length:=(d0.1 K).1;refine Take.BA Y K Z (by simp[Ek,ac]) hw λρ ay az=>Sa ay vs xs ag ai al am ap aq av aw az λr seg a0 a1=>⟨_,S.set jp []++ [seg],V,V,a1,by rw[p8 (by simpa using O)];simp[O],λU=>?_⟩;have a2:(S.set jp []++ [seg]).set jp [(bk,o)]=S++ [seg]:=by
  rw[List.set_append_left _ _ (by simpa using O),rJ];congr 1;apply q3;intro q;rw[qT];split;rename_i e;subst e;rw[K];rfl
 rw[a2] at U ⊢;exact h r seg a0 U
theorem Take.app{bk:Nat}{o:Obj}{pp:Rp α}{t1:TypeId}{a:Option Addr}{al:Seg}{xs ys ac:List α}{z:Value}(j K:Nat)(aq:Au E H S)(ag:S[jp]?=some [(bk,o)])(av:Ds xs ys=some ac)
  (aw:ops[i]?=some ⟨d,.call ⟨.builtin .append,#[x,y],ats⟩,ty,p,af,g⟩) (hw:AY L ops ⟨d,.call ⟨.builtin .append,#[x,y],ats⟩,ty,p,af,g⟩=some true) (ay:Bu n d=true)
  (az:ev L x=some (.slice a xs.length c)) (a0:ev L y=some (.slice ax ys.length cx)) (a1:ats[0]?=some t) (a2:ats[1]?=some t1) (a3:P.underlying t=some (.slice e)) (a4:P.underlying t1=some (.slice e)) (a5:Bz P e=some pp.n) (hb:F6 P e=some sz) (a6:zeroOf P e=some z) (a7:z.cells.size=pp.n)
  (a8:0<sz) (a9:sz<=64) (bb:OL e pp E a c seg xs) (be:OL e pp E ax cx al ys) (bi:S[j]?=some seg) (bn:S[K]?=some al) (bo:(j==jp)=false) (bv:(K==jp)=false)
  (h:∀O U g seg',OL e pp E O U seg' ac->Au E H (S.set j (g++seg'))->AZ J Q b n ds ops k cs m (Az [bk]) fuel (Bm listed i) (AB L d (.slice O ac.length U)) (Ak E H (S.set j (g++seg')))):
  Take J Q b n ds ops k cs m (Az [bk]) fuel listed L (Ak E H S) i:=by
 have bw:jp<S.length:=(d0.1 ag).1;have ai:j≠jp:=by simpa using bo
 have bx:K≠jp:=by simpa using bv
 refine Take.BA aq ag aw (by simp[Ek,ay]) hw λρ am bz=>VE j K av (am _ _ az) (am _ _ a0) a1 a2 a3 a4 a5 hb a6 a7 a8 a9 bb be bz (by rw[qD (qH ai)];exact bi) (by rw[qD (qH bx)];exact bn) λO U Y seg' b0 b1=>⟨_,(S.set jp []).set j (Y++seg'),V,V,b1,by rw[qD ai];simp[bw],λap=>?_⟩;have b2:((S.set jp []).set j (Y++seg')).set jp [(bk,o)]=S.set j (Y++seg'):=by
  rw[sJ _ _ ai,rJ];congr 1;apply q3;intro q;rw[qT];split;rename_i e;subst e;rw[ag];rfl
 rw[b2] at ap ⊢;exact h O U Y seg' b0 ap
end
section
variable {b:Frame}{n m fuel:Nat}
variable {x:Operand}{v:Value}{i:Nat}
theorem Take.N6(hi:ops[i]?=some oi)(K:(!Ek oi.op&&Bu n oi.dst)=true)(hw:AY L ops oi=some true)
  (h:∀ρ,Fa L ρ->lp P (execOp ρ oi) s (λO s'=>match O with
   | .value v=>AZ J Q b n ds ops k cs m Ec fuel (Bm listed i) (AB L oi.dst v) s'
   | .skip=>AZ J Q b n ds ops k cs m Ec fuel (Bm listed i) (AB L oi.dst undef) s'
   | _=>False) (λ_ _=>False)):Take J Q b n ds ops k cs m Ec fuel listed L s i:=by
 simp only[f5] at K
 refine⟨oi,hi,K.1,K.2,hw,λρ Y=>Es _ (h ρ Y) ?_ (λ_ _ h=>h)⟩
 intro O s' U
 cases O with
 | value v=>exact U
 | skip=>exact U
 | _=>exact U.elim
theorem Take.FK{pp:Rp α}(vs:Lv_){z:Value}(xs:List α)(K:Au E H S)
  (O:ops[i]?=some ⟨d,.buildSlice t sz ps,ty,p,af,g⟩) (hw:AY L ops ⟨d,.buildSlice t sz ps,ty,p,af,g⟩=some true) (U:Bu n d=true)
  (Y:P.underlying t=some (.slice e)) (Z:Bz P e=some pp.n) (ac:zeroOf P e=some z) (ag:decide (0<sz*pp.n/\sz*pp.n<=2^24)=true)
  (ai:ps.toList.mapM (λq=>(ev L q.2).map λv=>(q.1,v))=some ((vs.zipIdx 0).map λq=>(q.2,q.1)))
  (al:vs.length=sz) (am:xs.length=sz) (ap:K6 pp E xs vs)
  (h:∀r seg,OL e pp E (some ⟨r,0,none⟩) sz seg xs->Au E H (S++ [seg])->AZ J Q b n ds ops k cs m Ec fuel (Bm listed i) (AB L d (.slice (some ⟨r,0,none⟩) xs.length sz)) (Ak E H (S++ [seg]))):
  Take J Q b n ds ops k cs m Ec fuel listed L (Ak E H S) i:=
 Take.N6 O (by simp[Ek,U]) hw λρ aq=>Sa aq vs xs Y Z ac ag ai al am ap K λr seg av aw=>h r seg av aw
theorem Take.app0{pp:Rp α}{t1:TypeId}{a:Option Addr}{Z:Seg}{xs ys Y:List α}{z:Value}(j ac:Nat)(ai:Au E H S)(al:Ds xs ys=some Y)
  (am:ops[i]?=some ⟨d,.call ⟨.builtin .append,#[x,y],ats⟩,ty,p,af,g⟩) (hw:AY L ops ⟨d,.call ⟨.builtin .append,#[x,y],ats⟩,ty,p,af,g⟩=some true) (ap:Bu n d=true)
  (aq:ev L x=some (.slice a xs.length c)) (av:ev L y=some (.slice ax ys.length cx)) (aw:ats[0]?=some t) (ay:ats[1]?=some t1) (az:P.underlying t=some (.slice e)) (a0:P.underlying t1=some (.slice e)) (a1:Bz P e=some pp.n) (hb:F6 P e=some sz) (a2:zeroOf P e=some z) (a3:z.cells.size=pp.n)
  (a4:0<sz) (a5:sz<=64) (a6:OL e pp E a c seg xs) (a7:OL e pp E ax cx Z ys) (a8:S[j]?=some seg) (a9:S[ac]?=some Z)
  (h:∀K O g seg',OL e pp E K O seg' Y->Au E H (S.set j (g++seg'))->AZ J Q b n ds ops k cs m Ec fuel (Bm listed i) (AB L d (.slice K Y.length O)) (Ak E H (S.set j (g++seg')))):
  Take J Q b n ds ops k cs m Ec fuel listed L (Ak E H S) i:=
 Take.N6 am (by simp[Ek,ap]) hw λρ ag=>VE j ac al (ag _ _ aq) (ag _ _ av) aw ay az a0 a1 hb a2 a3 a4 a5 a6 a7 ai a8 a9 λK O bb seg' be bi=>h K O bb seg' be bi
theorem Take.Kh{z:Value}(O:Au E H S)(U:ops[i]?=some ⟨d,.alloc e,ty,p,af,g⟩)(hw:AY L ops ⟨d,.alloc e,ty,p,af,g⟩=some true)(Y:Bu n d=true)(Z:zeroOf P e=some z)
  (h:∀r,Au E H (S++ [[(r,.cells z.cells e (0,0))]])->AZ J Q b n ds ops k cs m Ec fuel (Bm listed i) (AB L d (.pointer (some ⟨r,0,none⟩))) (Ak E H (S++ [[(r,.cells z.cells e (0,0))]]))):
  Take J Q b n ds ops k cs m Ec fuel listed L (Ak E H S) i:=
 Take.N6 U (by simp[Ek,Y]) hw λρ _=>by
  show lp P (do pure (Next.value (← Instr.alloc e true (.tuple #[])))) _ _ _
  refine AA _ _ ?_
  unfold Instr.alloc
  refine AA _ _ (Ik Z ?_)
  refine AA _ _ (Ka O λr K=>?_)
  rw[(F2 K).1]
  exact h r (F2 K).2
end
theorem B9{pp:Rp α}{E:LH}{ws:Lv_}{xs:List α}(K:(rA kk pp).r E ws xs):ws.length=kk*pp.n:=(rA kk pp).len K
theorem Ip{pp:Rp α}{E:LH}{ws:Lv_}{xs:List α}{m:Int}{x:α}(O:(rA kk pp).r E ws xs)(hm:ix xs m=some x):∃us,pp.r E us x/\0<=m/\m<kk/\(∀j w,us[j]?=some w->ws[m.toNat*pp.n+j]?=some w):=by
 obtain⟨U,wss,rfl,Y,K⟩:=O;obtain⟨m,rfl,hm⟩:=Gj hm;have ac:m<xs.length:=(d0.1 hm).1;have hw:wss[m]?=some wss[m]:=d6 (by omega);exact⟨wss[m],K m x _ hm hw,by omega,by omega,λj w Z=>Lq (IW (Y.trans U.symm) K) hw j w Z⟩
section
variable {b:Frame}{n:Nat}
variable {x:Operand}{i:Nat}
theorem HL{pp:Rp α}{a:Addr}{ws:Lv_}{xs:List α}(K:(rA kk pp).r E ws xs)(O:DY P t=some true)(U:Bz P t=some (kk*pp.n))(Y:ρ x=.pointer (some a))(h:∀j v,ws[j]?=some v->s.cell? (a.add j)=some v):Yl P ⟨d,.load t x,ty,p,af,g⟩ ρ s (.agg ws.toArray):=
 IV O (by rw[B9 K];exact U) Y h
theorem V4{pp:Rp α}{ws:Lv_}{xs:List α}{xv:α}{m:Int}{wr:Bool}(Y:(rA kk pp).r E ws xs)(hm:ix xs m=some xv)
  (ap:ops[i]?=some ⟨d,.index t x y,ty,p,af,g⟩) (hw:AY L ops ⟨d,.index t x y,ty,p,af,g⟩=some true) (aq:BX b n ⟨d,.index t x y,ty,p,af,g⟩=true)
  (av:ev L x=some (.agg ws.toArray)) (aw:ev L y=some (.int kd m)) (ay:P.underlying t=some (.array kk e)) (Z:Bz P e=some pp.n) (az:DY P e=some wr)
  (h:∀us,pp.r E us xv->JL J Q b n (AB L d (if wr then .agg us.toArray else us.headD undef)) ds (.inRegion ops rest::k) cs s) (a0:wr=false->pp.n=1):
  JL J Q b n L ds (.inRegion ops (i::rest)::k) cs s:=by
 let⟨us,ac,a1,a2,ag⟩:=Ip Y hm;have hlen:=pp.len ac;have a3:=B9 Y;refine Bl ap hw aq (λρ ai=>?_) (h us ac);refine F1 (sm:=Instr.index t (ρ x) (ρ y)) V ?_;rw[ai _ _ av,ai _ _ aw];unfold Instr.index;simp only[asIntOf,IN];refine AA (x:=underlying t) _ (CE ay ?_);simp only[a1,a2,and_self,q1];refine AA (x:=Go.sizeOf e) _ (FA Z ?_);unfold Go.part;refine AA (x:=isAgg e) _ (OI az ?_);have a5:m.toNat*pp.n+pp.n<=ws.length:=by
  rw[a3];have:(m.toNat+1)*pp.n<=kk*pp.n:=qR _ (by omega);rw[rf] at this;exact this
 cases wr with
 | true=>
  simp only[q1];refine AA (x:=Go.sizeOf e) _ (FA Z ?_);have a4:ws.toArray.extract (m.toNat*pp.n) (m.toNat*pp.n+pp.n)=us.toArray:=by
   apply q8;intro j;by_cases al:j<us.length;have U:=ag j us[j] (d6 al);simp only[tq,r7,qE];rw[d7 (by omega),U];simp[al];rw[qg (by simp;omega),qg (by simp;omega)]
  rw[a4];exact⟨V,V⟩
 | false=>
  have am:=a0 V;obtain⟨w,rfl⟩:∃w,us=[w]:=by
   match us,hlen with
   | [w],_=>exact⟨w,rfl⟩
   | [],K=>rw[am] at K;cases K
   | _::_::_,K=>rw[am] at K;simp at K
  have U:=ag 0 w V;simp only[qe,qY,qE];rw[re] at U;rw[U];exact⟨V,V⟩
end
def Hv(S:List Seg):List Nat->Prop
 | []=>True
 | bk::bks=>(∃(j:Nat) (o:Obj),S[j]?=some [(bk,o)])/\Hv S bks
theorem Hv.mem{S:List Seg}:∀{bks:List Nat},Hv S bks->∀bk∈bks,∃(j:Nat) (o:Obj),S[j]?=some [(bk,o)]
 | [],_,_,h=>by cases h
 | b::bks,h,bk,hb=>by
  rcases gv.1 hb with rfl | hb;exact h.1;exact h.2.mem bk hb
variable{bks:List Nat}
theorem Hv.free{E H:LH}{S:List Seg}(h:Hv S bks)(K:Au E H S):∀x,Az bks x=true->E x=none:=λx O=>by
 obtain⟨j,o,U⟩:=h.mem x (by simpa [Az] using O)
 exact PW K U
variable{s':St}
section
variable {b:Frame}{n m fuel:Nat}
variable {x:Operand}{v:Value}{i:Nat}
theorem aT{f:FuncId}{vs:Lv_}(al:Hv S bks)(am:AW J f vs E [] R)(ap:Region.ready .any ops listed=[i])
  (aq:ops[i]?=some ⟨d,.call ⟨.value (.func f),args,ats⟩,ty,p,af,g⟩) (av:Bu n d=true) (hw:AY L ops ⟨d,.call ⟨.value (.func f),args,ats⟩,ty,p,af,g⟩=some true) (hb:Ei P f=true) (aw:evs L args.toList=some vs) (Z:Au E H S)
  (ay:∀v E' seg',Le E E'->R v E' seg'->Au E' H (S++ [seg'])->AZ J Q b n ds ops k cs m (Az bks) fuel (Bm listed i) (AB L d v) (Ak E' H (S++ [seg']))):
  AZ J Q b n ds ops k cs m (Az bks) (fuel+1) listed L (Ak E H S):=by
 have az:=Fc.LX (am (Bg S.flatten H) trivial) (by rintro v s' ⟨E',B',_,_,_,rfl⟩;rfl);refine AZ.call V ap aq av hw hb aw az ?_;rintro v a7 ⟨⟨E',B',hle,a0,a1,rfl⟩,w,a2⟩;have e2:mk E' (Bg S.flatten H) B'=mk E' H (B'++S.flatten):=by unfold mk;rw[Ge]
 have a3:Nd E' H S.flatten:=Nd.grow Z λx O=>by
  have a4:=a2.d x O;have U:Bg B' (Bg S.flatten H) x=none:=a4;exact(Ij U).1
 have ac:Nd E' H (B'++S.flatten):=Nd.glue a1 a3;have ag:(B'++S.flatten).Perm (S++ [B']).flatten:=by rw[Gh];exact no
 have ai:Au E' H (S++ [B']):=Nd.perm ac ag;rw[e2,FG ac ag];refine⟨V,λx o O=>?_,ay v E' B' hle a0 ai⟩;by_cases hd:Az bks x=true
 .obtain⟨j,o',Y⟩:=al.mem x (by simpa [Az] using hd);have U:(Ak E H S).get x=some o':=Dz (i:=0) Z Y V;have a5:j<S.length:=(d0.1 Y).1;have a6:(Ak E' H (S++ [B'])).get x=some o':=Dz (i:=0) ai (by rw[p8 a5];exact Y) rfl;have K:(if Az bks x then(Ak E H S).get x else E x)=some o:=O
  show(if Az bks x then(Ak E' H (S++ [B'])).get x else E' x)=some o
  rw[d7 hd] at K ⊢;rw[a6,← U];exact K
 .have K:(if Az bks x then(Ak E H S).get x else E x)=some o:=O
  show(if Az bks x then(Ak E' H (S++ [B'])).get x else E' x)=some o
  rw[d9 hd] at K ⊢;exact hle _ _ K
theorem bG(m:Nat)(bks:List Nat){id:Nat}(U:Hv S bks)(Y:Au E H S)(hm:P.follows .mixedOrders=true)(K:(b.kind != .early)=true)(O:EB ops m=true)
  (h:EB ops m=true->AZ J Q b n ds ops k cs m (Az bks) ops.size (Array.replicate ops.size false) L (Ak E H S)):JL J Q b n L ds (.code (.region id ops true)::k) cs (Ak E H S):=
 Rg m (Az bks) V hm K (h O)
theorem BP{bk o:Nat}{c:Av_}{f:Nat×Nat}(j:Nat)(K:Au E H S)(O:S[j]?=some [(bk,.cells c e f)])(U:Az bks bk=true)(Y:∀x o,(BA (Az bks) (Ak E H S)).E x=some o->s'.E x=some o)(hw:c[o]?=some w):s'.cell? ⟨bk,o,none⟩=some w:=by
 have Z:(BA (Az bks) (Ak E H S)).E bk=some (.cells c e f):=by
  show(if Az bks bk then(Ak E H S).get bk else E bk)=_
  rw[d7 U];exact Dz (i:=0) K O V
 have ac:=Y _ _ Z;unfold St.cell? St.get;rw[ac];exact hw
theorem W0(O:Au E H S)(U:∀x o,(BA (Az bks) (Ak E H S)).E x=some o->s'.E x=some o)(Y:Hv S bks):∀x o,E x=some o->s'.E x=some o:=λx o K=>U x o (by
 show(if Az bks x then(Ak E H S).get x else E x)=some o
 rw[d9 (λhd=>by rw[Y.free O x hd] at K;cases K)];exact K)
end
theorem UW{P:Program}{s:St}{ρ:Operand->Value}{x y:Operand}{d:Option Tmp}{t ty e:TypeId}{p:String}{af:Ae_}{g:On_}{kd:IntKind}{xs:List α}{xv:α}{m:Int}{bk:Nat}(hm:ix xs m=some xv)(K:P.underlying t=some (.slice e))(O:Bz P e=some sz)(U:ρ x=.slice (some ⟨bk,0,none⟩) xs.length c)(Y:ρ y=.int kd m):
  Yl P ⟨d,.indexAddr t x y,ty,p,af,g⟩ ρ s (.pointer (some ⟨bk,m.toNat*sz,none⟩)):=by
 obtain⟨m,rfl,hm⟩:=Gj hm;have Z:m<xs.length:=(d0.1 hm).1;have:=Ng (P:=P) (s:=s) (d:=d) (ty:=ty) (p:=p) (af:=af) (g:=g) K O U Y ⟨by omega,by omega⟩;rw[Et rfl] at this;simpa using this
def I9(ws:Lv_)(q:Nat)(us:Lv_):Lv_:=(A9 ws.toArray q us).toList
theorem OK{ws us:Lv_}{q:Nat}(h:q+us.length<=ws.length)(j:Nat):(I9 ws q us)[j]?=if q<=j/\j<q+us.length then us[j - q]? else ws[j]? :=by
 unfold I9;rw[qU,Ni us _ q (by simpa using h)];simp
variable{l:Lv_}
theorem Yx{ws us:Lv_}{q:Nat}(h:q+us.length<=ws.length):A9 (l++ws).toArray (l.length+q) us=(l++I9 ws q us).toArray:=by
 apply q8;intro j;rw[Ni us _ _ (by simp;omega)];simp only[qE];by_cases O:l.length+q<=j/\j<l.length+q+us.length;rw[d7 O,nL (by omega),OK h,d7 (by omega)];congr 1;omega;rw[d9 O];rcases gD j l.length with K | K;rw[p8 K,p8 K];rw[nL K,nL K,OK h,d9 (by omega)]
theorem Jt{ws us:Lv_}(h:us.length=ws.length):I9 ws 0 us=us:=by
 apply q3;intro j;rw[OK (by omega)];split;simp;rename_i K;rw[qy (by omega),qy (by omega)]
theorem Ha{E H:LH}{S:List Seg}{bk:Nat}{ws:Lv_}{e:TypeId}{f:Nat×Nat}(j:Nat)(K:Au E H S)(O:S[j]?=some [(bk,.cells (l++ws).toArray e f)]):∀q v,ws[q]?=some v->(Ak E H S).cell? (Addr.add ⟨bk,l.length,none⟩ q)=some v:=λq v U=>by
 rw[Et rfl]
 refine B8 K O ?_
 simp only[qE]
 rw[nL (by omega)]
 rw[show l.length+q - l.length=q by omega];exact U
theorem J8{E H:LH}{S:List Seg}{bk o:Nat}{ws:Lv_}{e:TypeId}{f:Nat×Nat}(j:Nat)(K:Au E H S)(O:S[j]?=some [(bk,.cells (l++ws).toArray e f)])(U:ws[o]?=some w):(Ak E H S).cell? ⟨bk,l.length+o,none⟩=some w:=by
 have:=Ha j K O o w U
 rwa[Et rfl] at this
theorem PD{pp:Rp α}{E:LH}{ws us:Lv_}{xs:List α}{m:Int}{x y:α}(Z:(rA kk pp).r E ws xs)(hm:ix xs m=some x)(hu:pp.r E us y):(rA kk pp).r E (I9 ws (m.toNat*pp.n) us) (xs.set m.toNat y)/\m.toNat*pp.n+us.length<=ws.length:=by
 have av:=B9 Z;obtain⟨ac,wss,rfl,ag,ai⟩:=Z;obtain⟨m,rfl,hm⟩:=Gj hm;have aw:m<xs.length:=(d0.1 hm).1;have al:=pp.len hu;have ay:=IW (ag.trans ac.symm) ai;have am:m*pp.n+us.length<=wss.flatten.length:=by
  rw[av,al];have:(m+1)*pp.n<=kk*pp.n:=qR _ (by omega);rw[rf] at this;exact this
 simp only[q5];refine⟨⟨by simpa using ac,wss.set m us,?_,by simpa using ag,λi az a0 O U=>?_⟩,am⟩
 .apply q3;intro j;rw[OK am];have key:∀(wss:List (Lv_)) (m:Nat) (hm:m<wss.length),(∀ws∈wss,ws.length=pp.n)->∀j,(wss.set m us).flatten[j]?=if m*pp.n<=j/\j<m*pp.n+us.length then us[j - m*pp.n]? else wss.flatten[j]? :=by
   intro wss
   induction wss with
   | nil=>intro m hm;simp at hm
   | cons vs wss a1=>
    intro m hm ap j;have a2:vs.length=pp.n:=ap vs (by simp);cases m with
    | zero=>
     simp only[sd,qC,se,qV,true_and,rO,sg];split;rename_i K;rw[p8 K];rename_i K;rw[nL (by omega),nL (by omega),al,a2]
    | succ m=>
     simp only[ta,qC];have Y:(m+1)*pp.n=m*pp.n+pp.n:=rf _ _;rcases gD j vs.length with K | K;rw[p8 K,p8 K,d9 (by omega)];rw[nL K,nL K,a1 m (by simpa using hm) (λws a3=>ap ws (f8 _ a3))];by_cases aq:m*pp.n<=j - vs.length/\j - vs.length<m*pp.n+us.length;rw[d7 aq,d7 (by omega)];congr 1;omega;rw[d9 aq,d9 (by omega)]
  exact(key wss m (by omega) ay j).symm
 .rw [qT] at O U;by_cases Y:m=i;subst Y;rw[d7 rfl,d7 aw] at O;rw[d7 rfl,d7 (by omega)] at U;cases O;cases U;exact hu;rw[d9 Y] at O U;exact ai i az a0 O U
theorem Gw{pp:Rp α}{E:LH}{x:α}(h:pp.r E [w] x):(rA kk pp).r E (List.replicate kk w) (List.replicate kk x):=by
 refine⟨by simp,List.replicate kk [w],?_,by simp,λi y us K hu=>?_⟩
 .induction kk with
  | zero=>rfl
  | succ k O=>rw[sG,sG,qC,← O];rfl
 .have U:=r5 (qi K);have e2:=r5 (qi hu);subst U e2;exact h
section
variable {b:Frame}{n:Nat}
variable {x:Operand}{i:Nat}
theorem Kc{pp:Rp α}{ws:Lv_}{xs:List α}{xv:α}{m:Int}{bk o:Nat}(K:(rA kk pp).r E ws xs)(hm:ix xs m=some xv)(O:P.underlying t=some (.array kk e))(U:Bz P e=some pp.n)(Y:ρ x=.pointer (some ⟨bk,o,none⟩))(Z:ρ y=.int kd m):
  Yl P ⟨d,.indexAddr t x y,ty,p,af,g⟩ ρ s (.pointer (some ⟨bk,o+m.toNat*pp.n,none⟩)):=by
 let⟨us,ai,ac,ag,al⟩:=Ip K hm;have:=T9 (P:=P) (s:=s) (d:=d) (ty:=ty) (p:=p) (af:=af) (g:=g) O U Y Z ⟨ac,ag⟩;rw[Et rfl] at this;exact this
theorem Hr{bk o:Nat}{ws us:Lv_}{v:Value}(j:Nat)(U:ops[i]?=some ⟨d,.store t x y,ty,p,af,g⟩)(hw:AY L ops ⟨d,.store t x y,ty,p,af,g⟩=some true)(Y:BX b n ⟨d,.store t x y,ty,p,af,g⟩=true)(Z:Au E H S)
  (ac:ev L x=some (.pointer (some ⟨bk,l.length+o,none⟩))) (ag:ev L y=some v) (K:v.cells.toList=us) (ai:Bz P t=some us.length) (al:∀u∈us,CM u=true) (am:S[j]?=some [(bk,.cells (l++ws).toArray e (0,0))]) (hle:o+us.length<=ws.length)
  (h:Au E H (S.set j [(bk,.cells (l++I9 ws o us).toArray e (0,0))])->JL J Q b n (AB L d undef) ds (.inRegion ops rest::k) cs (Ak E H (S.set j [(bk,.cells (l++I9 ws o us).toArray e (0,0))]))):
  JL J Q b n L ds (.inRegion ops (i::rest)::k) cs (Ak E H S):=by
 have ap:v.cells.size=us.length:=by rw[← K];simp
 refine JS.store (v:=v) (off:=l.length+o) j U hw Y Z ac ag (by rw[ap];exact ai) (by rw[K];exact al) am (by simp;omega) λO=>?_;rw[K,Yx hle] at O ⊢;exact h O
end
section
variable {x:Operand}{v:Value}
theorem Wq{n:Nat}{kd:IntKind}{a b:Int}(K:P.underlying t=some (.int kd)){Q:Bool->St->Prop}(k:Q (a==b) s):lp P (Op.equalIn (n+1) t (.int kd a) (.int kd b)) s Q X:=by
 unfold Op.equalIn;refine AA _ _ (CE K ?_);simp only[q1];exact k
end
theorem UI{E H:LH}{S:List Seg}{bk:Nat}{ws:Lv_}{e:TypeId}{f:Nat×Nat}(j:Nat)(K:Au E H S)(O:S[j]?=some [(bk,.cells (l++ws).toArray e f)])(U:Az bks bk=true)(Y:∀x o,(BA (Az bks) (Ak E H S)).E x=some o->s'.E x=some o):∀q v,ws[q]?=some v->s'.cell? (Addr.add ⟨bk,l.length,none⟩ q)=some v:=λq v Z=>by
 rw[Et rfl]
 refine BP j K O U Y ?_
 simp only[qE]
 rw[nL (by omega)]
 rw[show l.length+q - l.length=q by omega];exact Z
variable {xt t1 t2:TypeId}{o:Option (Int×Option Int)}
section
variable {x:Operand}{v:Value}
end
def Xz{P:Program}(J:Judge P)(v:Value)(args:Av_)(s:St)(R:Value->St->Prop):Prop:=
 ∀(Q:Gs_) (c:Frame) (cs:Lf_),(∀w s',R w s'->J.ok Q (G (c.finish w) cs) s')->
  lp P (do let d ← Deferred.ofValue v args;invoke d.target d.args) s (λK s'=>match K with
   | .enter f a=>J.ok Q (G (Frame.enter P f a .normal) (c::cs)) s'
   | .round l f tm as O=>J.ok Q (G (Frame.round l f tm as O .normal) (c::cs)) s'
   | _=>False) (λ_ _=>False)
def GH{P:Program}(J:Judge P)(v:Value)(args:Lv_)(E:LH)(B:Seg)(R:Value->LH->Seg->Prop):Prop:=
 ∀H,Nd E H B->Xz J v args.toArray (mk E H B) (λv s'=>∃E' B',Le E E'/\R v E' B'/\Nd E' H B'/\s'=mk E' H B')
variable{O:Value}
section
variable {b:Frame}{n i:Nat}
theorem GH.ofFn{f:FuncId}{caps vs:Lv_}{B:Seg}(hb:Ei P f=true)(h:AW J f (vs++caps) E B R):GH J (.func (.func f) #[] caps.toArray) vs E B R:=λH K Q c cs O=>by
 simp only[Deferred.ofValue,bind,Sem.bind,pure,invoke]
 have e: #[]++vs.toArray++caps.toArray=(vs++caps).toArray:=by simp
 rw[e];exact J5 hb (h H K Q c cs O)
theorem ZN{x:Operand}{s:St}{vs:Lv_}{R:Value->St->Prop}
  (Y:ops[i]?=some ⟨d,.call ⟨.value x,args,ats⟩,ty,p,af,g⟩) (hw:AY L ops ⟨d,.call ⟨.value x,args,ats⟩,ty,p,af,g⟩=some true) (U:((b.kind != .early)&&Bu n d)=true)
  (Z:ev L x=some O) (ac:evs L args.toList=some vs) (ag:Xz J O vs.toArray s R) (ai:∀v s',R v s'->JL J Q b n (AB L d v) ds (.inRegion ops rest::k) cs s'):
  JL J Q b n L ds (.inRegion ops (i::rest)::k) cs s:=λT K=>by
 simp only[f5] at U
 have al:args.map (BK T)=vs.toArray:=by
  rw[← Gv K.Gz ac];apply rl;simp
 refine Judge.oper Y (Cl K hw) (by simpa using U.1) (.inr λc am=>by cases am) ?_;have hd:lp P (execOp (BK T) ⟨d,.call ⟨.value x,args,ats⟩,ty,p,af,g⟩) s (upon J Q b T ds ops i rest k cs d) (MH J Q b T ds ops i rest k cs):=by
  have ap:execOp (BK T) ⟨d,.call ⟨.value x,args,ats⟩,ty,p,af,g⟩=(do let d ← Deferred.ofValue O vs.toArray;invoke d.target d.args):=by
   simp only[execOp,resolve,al,K.Gz _ _ Z]
  rw[ap];refine Es _ (ag Q (fr b T ds (.inRegion ops (i::rest)::k)) cs λv s' aq=>?_) (λav s' h=>?_) (λ_ _ h=>h.elim);rw[G9 (o:=⟨d,.call ⟨.value x,args,ats⟩,ty,p,af,g⟩) _ _ _ _ _ Y];exact ai v s' aq _ (K.put U.2 v);cases av<;>first | exact h | exact h.elim
 exact hd
theorem Mp{x:Operand}{vs:Lv_}(j:Nat)
  (al:GH J O vs E seg R) (am:ops[i]?=some ⟨d,.call ⟨.value x,args,ats⟩,ty,p,af,g⟩) (hw:AY L ops ⟨d,.call ⟨.value x,args,ats⟩,ty,p,af,g⟩=some true) (ap:((b.kind != .early)&&Bu n d)=true)
  (K:ev L x=some O) (aq:evs L args.toList=some vs) (U:Au E H S) (Y:S[j]?=some seg) (av:∀v E' seg',Le E E'->R v E' seg'->Au E' H (S.set j seg')->JL J Q b n (AB L d v) ds (.inRegion ops rest::k) cs (Ak E' H (S.set j seg'))):
  JL J Q b n L ds (.inRegion ops (i::rest)::k) cs (Ak E H S):=by
 have Z:S.flatten.Perm (seg++(S.set j []).flatten):=(Dm (seg':=seg) Y).1.trans no;have ac:Nd E H (seg++(S.set j []).flatten):=Nd.perm U Z;have aw:Ak E H S=mk E (Bg (S.set j []).flatten H) seg:=by
  rw[show Ak E H S=mk E H S.flatten from rfl,FG U Z];unfold mk;rw[Ge]
 rw[aw];refine ZN am hw ap K aq (al _ (Nd.front ac)) ?_;rintro v s' ⟨E',B',hle,ay,az,rfl⟩;have e2:mk E' (Bg (S.set j []).flatten H) B'=mk E' H (B'++(S.set j []).flatten):=by unfold mk;rw[Ge]
 have a0:Nd E H (S.set j []).flatten:=by
  have:=ac;rw[Nd.iff] at this ⊢;rw[qN,qO] at this;exact⟨this.1.2.1,λq a1=>this.2 q (qG _ a1)⟩
 refine Vg V λ⟨w,a2⟩=>?_;have a3:Nd E' H (S.set j []).flatten:=a0.grow λx K=>by
  have a4:=a2.d x K;have a5:Bg B' (Bg (S.set j []).flatten H) x=none:=a4;exact(Ij a5).1
 have ag:Nd E' H (B'++(S.set j []).flatten):=Nd.glue az a3;rw[e2];have ai:(B'++(S.set j []).flatten).Perm (S.set j B').flatten:=no.trans (Dm Y).2.symm;rw[FG ag ai];exact av v E' B' hle ay (Nd.perm ag ai)
theorem Take.jL{m:Nat}{listed:Array Bool}{f:FuncId}{vs:Lv_}(am:Hv S bks)(Z:Au E H S)(ap:AW J f vs E [] R)
  (aq:ops[i]?=some ⟨d,.call ⟨.value (.func f),args,ats⟩,ty,p,af,g⟩) (hw:AY L ops ⟨d,.call ⟨.value (.func f),args,ats⟩,ty,p,af,g⟩=some true) (av:Bu n d=true) (hb:Ei P f=true) (aw:evs L args.toList=some vs)
  (ay:∀v E' seg',Le E E'->R v E' seg'->Au E' H (S++ [seg'])->AZ J Q b n ds ops k cs m (Az bks) sz (Bm listed i) (AB L d v) (Ak E' H (S++ [seg']))):
  Take J Q b n ds ops k cs m (Az bks) sz listed L (Ak E H S) i:=by
 have az:=Fc.LX (ap (Bg S.flatten H) trivial) (by rintro v s' ⟨E',B',_,_,_,rfl⟩;rfl);refine⟨_,aq,by simp[Ek],av,hw,λρ ac=>?_⟩;have a0:args.map ρ=vs.toArray:=by
  rw[← Gv ac aw];apply rl;simp
 have a1:ρ (.func f)=.func (.func f) #[] #[]:=ac _ _ V;simp only[execOp,resolve,bind,Sem.bind,Deferred.ofValue,a1,pure,invoke];have e: #[]++args.map ρ++ #[]=vs.toArray:=by rw[a0];simp
 rw[e];refine J5 hb ?_;rw[Mm];refine⟨_,az,?_⟩;rintro v a9 ⟨⟨E',B',hle,a2,a3,rfl⟩,w,a4⟩;have e2:mk E' (Bg S.flatten H) B'=mk E' H (B'++S.flatten):=by unfold mk;rw[Ge]
 have a5:Nd E' H S.flatten:=Nd.grow Z λx O=>by
  have a6:=a4.d x O;have U:Bg B' (Bg S.flatten H) x=none:=a6;exact(Ij U).1
 have ag:Nd E' H (B'++S.flatten):=Nd.glue a3 a5;have ai:(B'++S.flatten).Perm (S++ [B']).flatten:=by rw[Gh];exact no
 have al:Au E' H (S++ [B']):=Nd.perm ag ai;rw[e2,FG ag ai];refine⟨V,λx o O=>?_,ay v E' B' hle a2 al⟩;by_cases hd:Az bks x=true
 .obtain⟨j,o',Y⟩:=am.mem x (by simpa [Az] using hd);have U:(Ak E H S).get x=some o':=Dz (i:=0) Z Y V;have a7:j<S.length:=(d0.1 Y).1;have a8:(Ak E' H (S++ [B'])).get x=some o':=Dz (i:=0) al (by rw[p8 a7];exact Y) rfl;have K:(if Az bks x then(Ak E H S).get x else E x)=some o:=O
  show(if Az bks x then(Ak E' H (S++ [B'])).get x else E' x)=some o
  rw[d7 hd] at K ⊢;rw[a8,← U];exact K
 .have K:(if Az bks x then(Ak E H S).get x else E x)=some o:=O
  show(if Az bks x then(Ak E' H (S++ [B'])).get x else E' x)=some o
  rw[d9 hd] at K ⊢;exact hle _ _ K
theorem Take.FC{m:Nat}{listed:Array Bool}{f:FuncId}{vs:Lv_}(O:Au E H S)(U:AW J f vs E [] R)
  (Y:ops[i]?=some ⟨d,.call ⟨.value (.func f),args,ats⟩,ty,p,af,g⟩) (hw:AY L ops ⟨d,.call ⟨.value (.func f),args,ats⟩,ty,p,af,g⟩=some true) (Z:Bu n d=true) (hb:Ei P f=true) (ac:evs L args.toList=some vs)
  (K:∀v E' seg',Le E E'->R v E' seg'->Au E' H (S++ [seg'])->AZ J Q b n ds ops k cs m Ec sz (Bm listed i) (AB L d v) (Ak E' H (S++ [seg']))):
  Take J Q b n ds ops k cs m Ec sz listed L (Ak E H S) i:=by
 have e:Az []=Ec:=by funext x;rfl
 rw[← e] at K ⊢;exact Take.jL (bks:=[]) trivial O U Y hw Z hb ac K
end
open Go.ConcN (upd upd_ne upd_same)
def Db:Loc->Option Nat | .cell a=>some a.block | .obj r=>some r | _=>none
structure Ca (t:Trace) (w:World) (N:Nat) (S:Nat->St) (Sh:Nat->Prop):Prop where
 fits:∀i,i<N->Fits (S i) w
 hh:∀i j,i<N->j<N->i≠j->∀b,(S i).H b≠none->(S j).H b=none/\(S j).E b=none
 sh:∀i,i<N->∀b,Sh b->(S i).H b=none/\(S i).E b=none
 GV:∀b,Sh b->b<w.heap.size
 clean:∀said,¬Race said t
 low:∀op∈t,op.act.low w.heap.size
 kH:∀i,i<N->∀b,(S i).H b≠none->∀x a,touchAt t x=some a->Db a.loc=some b->Knows t i x
 kE:∀i,i<N->∀b,(S i).E b≠none->∀x a,touchAt t x=some a->Db a.loc=some b->a.write=true->Knows t i x
theorem Ri{t:Trace}{x:Nat}{a:Touch}{b n:Nat}(Z:∀op∈t,op.act.low n)(h:touchAt t x=some a)(hb:Db a.loc=some b):b<n:=by
 let⟨op,ac,K⟩:=touch_of h;have O:=Z op (mem_of_getElem? ac);cases U:op.act with
 | access e=>
  rw[U] at K O;simp only[MemAct.touch?,q2] at K;subst K;simp only[MemAct.low] at O;cases Y:e.loc with
  | cell ad=>rw[Y] at O hb;simp only[Db,q2] at hb;subst hb;exact O
  | obj r=>rw[Y] at O hb;simp only[Db,q2] at hb;subst hb;exact O
  | _=>rw[Y] at hb;simp[Db] at hb
 | mark m=>
  rw[U] at K O;cases m<;>simp only[MemAct.touch?] at K<;>first
   | (simp at K;done)
   | (simp only[q2] at K;subst K;simp only[Db,q2] at hb;subst hb;exact O)
 | _=>rw[U] at K;simp[MemAct.touch?] at K
variable{w':World}
theorem Mq{s:St}{w:World}{e:Event}{a:Touch}{b:Nat}(h:Ev s w w' e)(K:(MemAct.ofEvent e).touch?=some a)(hb:Db a.loc=some b):
  Ht s w w' b a.write:=by
 obtain⟨loc,wr,Y⟩:=e;cases loc with
 | cell ad=>
  obtain⟨O,U⟩:=h;simp only at O;subst O;simp only[MemAct.ofEvent,MemAct.touch?,q2] at K;subst K;simp only[Db,q2] at hb;subst hb;exact U
 | obj r=>
  obtain⟨O,U⟩:=h;simp only at O;subst O;simp only[MemAct.ofEvent,MemAct.touch?,q2] at K;subst K;simp only[Db,q2] at hb;subst hb;exact U
 | mark m=>
  cases m<;>simp only[Ev] at h<;>first | exact h.elim | simp[MemAct.ofEvent,MemAct.touch?] at K
 | _=>exact h.elim
theorem fe{s:St}{w:World}{e:Event}(h:Ev s w w' e):(MemAct.ofEvent e).low w'.heap.size:=by
 obtain⟨loc,wr,U⟩:=e;cases loc with
 | cell ad=>obtain⟨K,O⟩:=h;simp only at K;subst K;exact O.1
 | obj r=>obtain⟨K,O⟩:=h;simp only at K;subst K;cases wr<;>exact O.1
 | mark m=>cases m<;>simp only[Ev] at h<;>first | exact h.elim | exact trivial
 | _=>exact h.elim
theorem Yh{l:Loc}(h:l.isMemory=true):∃b,Db l=some b:=by
 cases l<;>simp[Loc.isMemory] at h<;>exact⟨_,rfl⟩
variable{N:Nat}{Sh:Nat->Prop}
theorem Ca.own{t:Trace}{w:World}{S:Nat->St}(h:Ca t w N S Sh){i:Nat}(hi:i<N){fn:FuncId}{pos:String}{es:Array Event}
  (a9:Fits s' w') (Y:Fr (S i) w s' w') (aw:∀e∈es,Ev (S i) w w' e):Ca (t++MemOp.ofEvents i fn pos es) w' N (upd S i s') Sh:=by
 have a4:∀j,j<N->j≠i->∀b o,((S j).H b=some o∨(S j).E b=some o)->w'.heap[b]?=some o/\(S i).H b=none:=by
  intro j U Z b o K;have hw:w.heap[b]?=some o:=K.elim ((h.fits j U).h b o) ((h.fits j U).e b o);have ai:b<w.heap.size:=by
   rcases gD b w.heap.size with a0 | a0;exact a0;simp[qg a0] at hw
  have a5:(S i).H b=none:=by
   cases bb:(S i).H b with
   | none=>rfl
   | some u=>
    have:=h.hh i j hi U (qH Z) b (by rw[bb];simp);rcases K with K | K;rw[this.1] at K;cases K;rw[this.2] at K;cases K
  exact⟨by rw[Y.keep b ai a5,hw],a5⟩
 have ay:∀j,j<N->∀b,w.heap.size<=b->(S j).H b=none/\(S j).E b=none:=by
  intro j U b hb;constructor
  .cases O:(S j).H b with
   | none=>rfl
   | some o=>have:=(h.fits j U).h b o O;simp[qg hb] at this
  .cases O:(S j).E b with
   | none=>rfl
   | some o=>have:=(h.fits j U).e b o O;simp[qg hb] at this
 have al:∀op∈MemOp.ofEvents i fn pos es,op.g=i/\∃e∈es,op.act=MemAct.ofEvent e:=by
  intro op al;obtain⟨e,he,rfl⟩:=mem_ofEvents al;exact⟨V,e,he,V⟩
 have hold:∀x a,touchAt t x=some a->touchAt (t++MemOp.ofEvents i fn pos es) x=some a:=by
  intro x a O;let⟨op,K,_⟩:=touch_of O;rw[touchAt_old (lt_size_of_getElem? K)];exact O
 have az:∀x a,touchAt (t++MemOp.ofEvents i fn pos es) x=some a->touchAt t x=some a∨(Knows (t++MemOp.ofEvents i fn pos es) i x/\∃e∈es,(MemAct.ofEvent e).touch?=some a):=by
  intro x a O;let⟨op,K,a6⟩:=touch_of O;rcases getElem?_append_cases K with⟨ai,be⟩ | ⟨_,bi⟩;left;rw[touchAt_of be];exact a6;right;let⟨bn,e,he,ap⟩:=al op bi;exact⟨by have:=knows_own K;rwa[bn] at this,e,he,by rw[← ap];exact a6⟩
 have bo:∀j,j<N->j≠i->∀b,s'.H b≠none->(S j).H b=none/\(S j).E b=none:=by
  intro j U Z b hb;rcases Y.own b hb with O | O;exact h.hh i j hi U (qH Z) b O;exact ay j U b O
 have bv:∀j,j<N->j≠i->∀b,(S j).H b≠none->s'.H b=none/\s'.E b=none:=by
  intro j U Z b hb;have ac:=h.hh j i U hi Z b hb;have ai:¬w.heap.size<=b:=λO=>hb (ay j U b O).1;constructor
  .cases O:s'.H b with
   | none=>rfl
   | some o=>
    rcases Y.own b (by rw[O];simp) with y | y;exact absurd ac.1 y;exact absurd y ai
  .cases O:s'.E b with
   | none=>rfl
   | some o=>
    rcases Y.Fp b (by rw[O];simp) with y | y | y;exact absurd ac.2 y;exact absurd ac.1 y;exact absurd y ai
 constructor;intro j U;by_cases e:j=i;subst e;rw[upd_same];exact a9;rw[upd_ne _ _ e];exact⟨λb o K=>(a4 j U e b o (.inr K)).1,λb o K=>(a4 j U e b o (.inl K)).1,(h.fits j U).d⟩;intro a c a7 aq Z b hb;by_cases e:a=i;subst e;rw[upd_same] at hb;rw[upd_ne _ _ (qH Z)];exact bo c aq (qH Z) b hb;rw[upd_ne _ _ e] at hb;by_cases a8:c=i;subst a8;rw[upd_same];exact bv a a7 Z b hb;rw[upd_ne _ _ a8];exact h.hh a c a7 aq Z b hb
 .intro j U b hb;by_cases e:j=i
  .subst e;rw[upd_same];have ac:=h.sh j U b hb;have ai:=h.GV b hb;constructor
   .cases O:s'.H b with
    | none=>rfl
    | some o=>
     rcases Y.own b (by rw[O];simp) with y | y;exact absurd ac.1 y;omega
   .cases O:s'.E b with
    | none=>rfl
    | some o=>
     rcases Y.Fp b (by rw[O];simp) with y | y | y;exact absurd ac.2 y;exact absurd ac.1 y;omega
  .rw [upd_ne _ _ e];exact h.sh j U b hb
 .exact λb hb=>q6 (h.GV b hb) Y.size
 .intro said;refine noRace_append (g:=i) (h.clean said) (λop K=>(al op K).1) λx a O op K c aq bw=>?_;let⟨_,e,he,ap⟩:=al op K;rw[ap] at aq;obtain⟨bx,hm,am,_⟩:=bw;let⟨b,hb⟩:=Yh hm;have bz:Db c.loc=some b:=by rw[← bx];exact hb
  have av:=Mq (aw e he) aq bz;rcases av.2 with y | y | ⟨y,a1⟩;exact h.kH i hi b y x a O hb;have:=Ri h.low O hb;omega;rcases am with z | z;exact h.kE i hi b y x a O hb z;rw[a1] at z;cases z
 intro op K;rcases rz.1 K with K | K;exact MemAct.low_mono Y.size (h.low op K);let⟨_,e,he,ap⟩:=al op K;rw[ap];exact fe (aw e he);intro j U b hb x a O ag;by_cases e:j=i;subst e;rw[upd_same] at hb;rcases az x a O with K | ⟨a2,_⟩;rcases Y.own b hb with y | y;exact(h.kH j U b y x a K ag).app _;have:=Ri h.low K ag;omega;exact a2;rw[upd_ne _ _ e] at hb;rcases az x a O with K | ⟨_,ev,he,a3⟩;exact(h.kH j U b hb x a K ag).app _;have av:=Mq (aw ev he) a3 ag;have ac:=h.hh j i U hi e b hb;rcases av.2 with y | y | ⟨y,_⟩;exact absurd ac.1 y;exact absurd (ay j U b y).1 hb;exact absurd ac.2 y;intro j U b hb x a O ag am;by_cases e:j=i;subst e;rw[upd_same] at hb;rcases az x a O with K | ⟨a2,_⟩;rcases Y.Fp b hb with y | y | y;exact(h.kE j U b y x a K ag am).app _;exact(h.kH j U b y x a K ag).app _;have:=Ri h.low K ag;omega;exact a2;rw[upd_ne _ _ e] at hb;rcases az x a O with K | ⟨_,ev,he,a3⟩;exact(h.kE j U b hb x a K ag am).app _;have av:=Mq (aw ev he) a3 ag;rcases av.2 with y | y | ⟨_,a1⟩;exact absurd ((h.hh i j hi U (qH e) b y).2) hb;exact absurd (ay j U b y).2 hb;rw[a1] at am;cases am
theorem Ca.mute{t u:Trace}{w:World}{S:Nat->St}(h:Ca t w N S Sh){g:Nat}(hu:∀op∈u,op.g=g)(Z:∀op∈u,op.act.touch?=none)(ai:∀op∈u,op.act.low w'.heap.size)(hw:w'.heap=w.heap):Ca (t++u) w' N S Sh:=by
 have ac:∀x a,touchAt (t++u) x=some a->touchAt t x=some a:=by
  intro x a O;let⟨op,K,U⟩:=touch_of O;rcases getElem?_append_cases K with⟨aq,al⟩ | ⟨_,am⟩;rw[touchAt_of al];exact U;rw[Z op am] at U;cases U
 exact⟨λi hi=>⟨λb o K=>by rw[hw];exact(h.fits i hi).e b o K,λb o K=>by rw[hw];exact(h.fits i hi).h b o K,(h.fits i hi).d⟩,h.hh,h.sh,λb hb=>by rw[hw];exact h.GV b hb,
  λsaid=>noRace_append (g:=g) (h.clean said) hu (λx a _ op K c ag _=>by rw[Z op K] at ag;cases ag),
  λop K=>(rz.1 K).elim (λK=>by rw[hw];exact h.low op K) (ai op),
  λi hi b hb x a O Y=>(h.kH i hi b hb x a (ac x a O) Y).app _,λi hi b hb x a O Y ap=>(h.kE i hi b hb x a (ac x a O) Y ap).app _⟩
theorem Ca.ghost{t:Trace}{w:World}{S:Nat->St}(h:Ca t w N S Sh){i:Nat}(hi:i<N){s₀:St}(ai:Cx (S i) s₀):Ca t w N (upd S i s₀) Sh:=by
 have Z:∀b,s₀.H b≠none->(S i).H b≠none:=λb hb=>by let⟨o,al⟩:=IP hb;rw[ai.own b o al];simp
 have am:∀b,s₀.E b≠none->(S i).E b≠none∨(S i).H b≠none:=λb hb=>by
  let⟨o,al⟩:=IP hb;rcases ai.Fp b o al with x | x;exact .inl (by rw[x];simp);exact .inr (by rw[x.1];simp)
 have ac:∀{x:Option Obj},¬x≠none->x=none:=λh=>tR.1 h;constructor;intro j K;by_cases e:j=i;subst e;rw[upd_same];exact ai.fits (h.fits j K);rw[upd_ne _ _ e];exact h.fits j K;intro a c ap aq ag b hb;by_cases e:a=i;subst e;rw[upd_same] at hb;rw[upd_ne _ _ (qH ag)];exact h.hh a c ap aq ag b (Z b hb);rw[upd_ne _ _ e] at hb;by_cases av:c=i;subst av;rw[upd_same];have O:=h.hh a c ap aq ag b hb;exact⟨ac λx=>Z b x O.1,ac λx=>(am b x).elim (λy=>y O.2) λy=>y O.1⟩;rw[upd_ne _ _ av];exact h.hh a c ap aq ag b hb;intro j K b hb;by_cases e:j=i;subst e;rw[upd_same];have O:=h.sh j K b hb;exact⟨ac λx=>Z b x O.1,ac λx=>(am b x).elim (λy=>y O.2) λy=>y O.1⟩;rw[upd_ne _ _ e];exact h.sh j K b hb;exact h.GV;exact h.clean;exact h.low;intro j K b hb x a U Y;by_cases e:j=i;subst e;rw[upd_same] at hb;exact h.kH j K b (Z b hb) x a U Y;rw[upd_ne _ _ e] at hb;exact h.kH j K b hb x a U Y;intro j K b hb x a U Y aw;by_cases e:j=i;subst e;rw[upd_same] at hb;rcases am b hb with y | y;exact h.kE j K b y x a U Y aw;exact h.kH j K b y x a U Y;rw[upd_ne _ _ e] at hb;exact h.kE j K b hb x a U Y aw
open Go.ConcN (sumTo sumTo_upd)
abbrev St.none:St:=St.quiet
def G2(o o':Os):Prop:=∃d:Nat,o'={o with wall:=o.wall+d,mono:=o.mono+d}
theorem G2.refl(o:Os):G2 o o:=⟨0,V⟩
theorem G2.of{o o':Os}(h:o'=o):G2 o o':=h▸ .refl o
theorem G2.trans{a b c:Os}(h:G2 a b)(k:G2 b c):G2 a c:=by
 obtain⟨d,rfl⟩:=h;obtain⟨e,rfl⟩:=k;exact⟨d+e,by simp[sr]⟩
def lone(s:St):Nat->St:=λi=>if i=0 then s else St.none
structure H6 (P:Program) (gs:Array Goroutine) (w:World) (t:Trace) (q:Nat->Nat) (Sh:Nat->Prop) (g:Goroutine) (s:St):Prop where
 main:gs[0]?=some g
 lv:Leavers P t gs q
 Cq:Ca t w gs.size (lone s) Sh
 over:t.HandedOver
 hears:Deaf t 0=0
def Reaches(P:Program)(gs:Array Goroutine)(w:World)(sl:Option (Nat×Nat))(t:Trace)(s:St)(K:Gs_):Prop:=
 ∃(n:Nat) (gs':Array Goroutine) (w':World) (U:Option (Nat×Nat)) (O:Trace) (q':Nat->Nat) (Y:Nat->Prop) (g':Goroutine) (s':St),
  runNT P n (crowd gs w sl) t=(.next (crowd gs' w' U),O)/\H6 P gs' w' O q' Y g' s'/\K g' s'/\Le' s s'/\w'.tape=w.tape/\G2 w.os w'.os/\w'.output=w.output
 where
  Le' (s s' : St) : Prop :=∀ b o, s.E b = some o -> s'.E b = some o
theorem U2{s:St}:upd (lone s) 0 s'=lone s':=by
 funext i;unfold upd lone;split<;>rfl
theorem OA{P:Program}{m m':Machine}{t ops:Trace}{k:Nat}{r:Stepped×Trace}(h:stepT P m=(.next m',ops))(K:runNT P k m' (t++ops)=r):runNT P (k+1) m t=r:=by
 simp only[runNT,h];exact K
theorem H6.at_{P:Program}{gs:Array Goroutine}{w:World}{t:Trace}{q:Nat->Nat}{g:Goroutine}{s:St}(h:H6 P gs w t q Sh g s)(d:Nat):H6 P gs (w.at d) t q Sh g s:=
 ⟨h.main,h.lv,by
  have:=h.Cq.mute (u:=#[]) (w':=w.at d) (g:=0) (by simp) (by simp) (by simp) rfl
  simpa using this,h.over,h.hears⟩
theorem Zj{P:Program}{g:Goroutine}{s:St}{K:Gs_}(a7:Ww P true g s K):
  ∀(M:Nat) (gs:Array Goroutine) (w:World) (sl:Option (Nat×Nat)) (t:Trace) (q:Nat->Nat) (Sh:Nat->Prop),sumTo gs.size q<=M->H6 P gs w t q Sh g s->Reaches P gs w sl t s K:=by
 intro M
 induction M with
 | zero=>?_
 | succ M bi=>?_
 all_goals
  intro gs w sl t q Sh cc hC;have av:=a7.1;have bn:∀x∈gs,awake x:=by
   intro x ai;obtain⟨i,hi,rfl⟩:=tv.1 ai;rcases q9 i with rfl | aw
   .have:gs[0]=g:=by simpa [qB hi] using hC.main
    rw[this];exact awake_of (.inl av)
   .exact awake_of ((hC.lv.old i _ aw (qB hi)).status.elim .inl λx=>.inr (.inr x))
  let⟨i,x,d,al,hi,ai,a8⟩:=crowd_pick (P:=P) (w:=w) (sl:=sl) bn ⟨0,g,hC.main,av⟩;have ay:=hC.at_ d;have az:0<gs.size:=(f4.1 hC.main).1;rcases q9 i with rfl | aw
  .obtain rfl:x=g:=by rw[hC.main] at hi;exact(f6 hi).symm
   have bo:Fits s (w.at d):=ay.Cq.fits 0 az;let⟨g',s',w',es,a0,a1,a2,Z,am⟩:=a7.2.1 (w.at d) bo;have a3:=runT_crowd_go (P:=P) (sl:=al) (i:=0) hi (show stepG P (0==0) x (w.at d)=_ from a0);have ap:((gs.map (woken P x g' w')).setIfInBounds 0 g').size=gs.size:=by simp
   have Y:∀op∈MemOp.ofEvents 0 x.frame.fn x.frame.place es,op.g=0:=λop O=>by obtain⟨e,_,rfl⟩:=mem_ofEvents O;rfl
   have bv:deafBehind (Deaf t 0) es=Deaf t 0:=deafBehind_still (λe he=>by
    have:=am e he
    unfold Ev at this
    constructor<;>intro bw<;>rw[bw] at this<;>exact this) _
   refine⟨1,_,w',al,t++MemOp.ofEvents 0 x.frame.fn x.frame.place es,q,Sh,g',s',OA (a8.trans a3) V,⟨by simp[az],⟨λj y U ac=>?_,λj U=>?_⟩,?_,?_,?_⟩,a1,Z.ext,Z.tape,.of Z.os,Z.output⟩
   .have a4:0≠j:=by omega
    rw[mt a4,rT] at ac;obtain⟨z,a5,rfl⟩:=qL.1 ac;have ag:=hC.lv.old j z U a5;rw[woken_quitsD ag,Deaf_other t (by omega) _ Y];exact ag
   rw[Deaf_other t (g':=0) (by simp at U;omega) _ Y];exact hC.lv.above j (by simpa using U);rw[ap,← U2 (s:=s)];exact ay.Cq.own az a2 (by simpa [lone] using Z) (by simpa [lone] using am);exact handedOver_app hC.over λop O=>.inl (Y op O);rw[Deaf_own,bv];exact hC.hears
  ·
   have ag:=hC.lv.old i x aw hi;have bx:(i==0)=false:=by simp;omega
   have a9:i<gs.size:=(f4.1 hi).1;cases a6:q i with
   | zero=>rw[a6] at ag;rw[ag.1] at ai;cases ai
   | succ k=>
    rw[a6] at ag;rcases ag with⟨bz,_⟩ | ⟨_,x',es,hm,b0,b1⟩;rw[bz] at ai;cases ai
    have ce:sumTo gs.size (upd q i k)+(k+1)=sumTo gs.size q+k:=by
     have:=sumTo_upd q k id a9;simpa [a6] using this
    first
     | (exfalso;omega)
     | (
      have a3:=runT_crowd_go (P:=P) (sl:=al) (i:=i) hi (by rw[bx];exact b0 (w.at d))
      have ap:((gs.map (woken P x x' (w.at d))).setIfInBounds i x').size=gs.size:=by simp
      have Y:∀op∈MemOp.ofEvents i x.frame.fn x.frame.place es,op.g=i:=λop O=>by obtain⟨e,_,rfl⟩:=mem_ofEvents O;rfl
      have bb:∀op∈MemOp.ofEvents i x.frame.fn x.frame.place es,op.act.touch?=none:=λop O=>by obtain⟨e,he,rfl⟩:=mem_ofEvents O;exact touch_mute (hm e he)
      have b2:H6 P ((gs.map (woken P x x' (w.at d))).setIfInBounds i x') (w.at d) (t++MemOp.ofEvents i x.frame.fn x.frame.place es) (upd q i k) Sh g s:=by
       refine⟨?_,⟨λj y U ac=>?_,λj U=>?_⟩,?_,?_,?_⟩
       .have a4:i≠0:=by omega
        rw[mt a4,rT,hC.main]
        simp[woken_run av]
       .by_cases aq:i=j
        .subst aq
         rw[pn (by simpa using a9)] at ac
         obtain rfl:=f6 ac
         rw[upd_same,Deaf_own]
         exact b1
        .rw [mt aq,rT] at ac
         obtain⟨z,a5,rfl⟩:=qL.1 ac
         have be:=hC.lv.old j z U a5
         rw[woken_quitsD be,upd_ne q k (qH aq),Deaf_other t aq _ Y]
         exact be
       .rw [Deaf_other t (g':=i) (by simp at U;omega) _ Y]
        exact hC.lv.above j (by simpa using U)
       .rw [ap]
        exact ay.Cq.mute Y bb (λop O=>by obtain⟨e,he,rfl⟩:=mem_ofEvents O;exact low_mute (hm e he) _) V
       exact handedOver_app hC.over λop O=>.inr (bb op O);rw[Deaf_other t (by omega) _ Y];exact hC.hears
      obtain⟨n,gs',w',b3,b4,q',b5,g',s',a0,a1,a2,Z,am,b6,ca⟩:=bi _ (w.at d) al _ _ Sh (by rw[ap];omega) b2
      exact⟨n+1,gs',w',b3,b4,q',b5,g',s',OA (a8.trans a3) a0,a1,a2,Z,am,b6,ca⟩)
def Hb(P:Program):Judge P where
 main:=true
 ok Q g s:=∀gs w sl t q Sh,H6 P gs w t q Sh g s->Reaches P gs w sl t s Q
 stop {Q g s} h:=λgs w sl t q Sh hC=>⟨0,gs,w,sl,t,q,Sh,g,s,rfl,hC,h,λ_ _ h=>h,rfl,.refl _,rfl⟩
 step {Q g s} h:=λgs w sl t q Sh hC=>by
  let⟨n,gs',w',K,O,q',U,g',s',Y,Z,ac,ag,ai,al,am⟩:=Zj h _ gs w sl t q Sh (oU _) hC
  let⟨ap,aq,av,aw,ay,az,a0,a1,a2,k1,a3,a4,a5,a6,a7,a8⟩:=ac gs' w' K O q' U Z
  refine⟨n+ap,aq,av,aw,ay,az,a0,a1,a2,?_,a3,a4,λb o h=>a5 b o (ag b o h),a6.trans ai,al.trans a7,a8.trans am⟩
  rw[runNT_add,Y];exact k1
 trans {Q R g s} h k:=λgs w sl t q Sh hC=>by
  let⟨n,gs',w',K,O,q',U,g',s',Y,Z,ac,ag,ai,al,am⟩:=h gs w sl t q Sh hC
  let⟨ap,aq,av,aw,ay,az,a0,a1,a2,k1,a3,a4,a5,a6,a7,a8⟩:=k g' s' ac gs' w' K O q' U Z
  refine⟨n+ap,aq,av,aw,ay,az,a0,a1,a2,?_,a3,a4,λb o h=>a5 b o (ag b o h),a6.trans ai,al.trans a7,a8.trans am⟩
  rw[runNT_add,Y];exact k1
 ghost {Q g s s₀} a9 h:=λgs w sl t q Sh hC=>by
  have bb:0<gs.size:=(f4.1 hC.main).1
  have be:H6 P gs w t q Sh g s₀:=⟨hC.main,hC.lv,by
   rw[← U2 (s:=s)];exact hC.Cq.ghost bb (by simpa [lone] using a9),hC.over,hC.hears⟩
  let⟨n,gs',w',K,O,q',U,g',s',Y,Z,ac,ag,ai,al,am⟩:=h gs w sl t q Sh be
  exact⟨n,gs',w',K,O,q',U,g',s',Y,Z,ac,λb o h=>ag b o (a9.ext b o h),ai,al,am⟩
end Pal
namespace Pal
open Go Go.Conc
open Go.ConcN (upd upd_same upd_ne)
variable{i:Nat}
section
variable {t u:Trace}{w w':World}{N:Nat}{S:Nat->St}{Sh:Nat->Prop}
theorem Ca.ext(h:Ca t w N S Sh)(ag:∀said,¬Race said (t++u))(hu:∀op∈u,∀a,op.act.touch?=some a->∀b,Db a.loc=some b->Sh b)
  (ai:∀op∈u,op.act.low w.heap.size) (Z:w'.heap.size=w.heap.size) (hw:∀b,¬Sh b->w'.heap[b]?=w.heap[b]?):Ca (t++u) w' N S Sh:=by
 have hold:∀x a b,touchAt (t++u) x=some a->Db a.loc=some b->¬Sh b->touchAt t x=some a:=by
  intro x a b U hb O;let⟨op,K,ac⟩:=touch_of U;rcases getElem?_append_cases K with⟨av,al⟩ | ⟨_,am⟩;rw[touchAt_of al];exact ac;exact absurd (hu op am a ac b hb) O
 have O:∀i,i<N->∀b,((S i).H b≠none∨(S i).E b≠none)->¬Sh b:=by
  intro i hi b hb ap;have:=h.sh i hi b ap;exact hb.elim (λx=>x this.1) (λx=>x this.2)
 refine⟨λi hi=>⟨λb o K=>?_,λb o K=>?_,(h.fits i hi).d⟩,h.hh,h.sh,λb hb=>by rw[Z];exact h.GV b hb,ag,λop K=>?_,λi hi b hb x a U Y=>?_,λi hi b hb x a U Y aq=>?_⟩;rw[hw b (O i hi b (.inr (by rw[K];simp)))];exact(h.fits i hi).e b o K;rw[hw b (O i hi b (.inl (by rw[K];simp)))];exact(h.fits i hi).h b o K;rcases rz.1 K with K | K;rw[Z];exact h.low op K;rw[Z];exact ai op K;exact(h.kH i hi b hb x a (hold x a b U Y (O i hi b (.inl hb))) Y).app _;exact(h.kE i hi b hb x a (hold x a b U Y (O i hi b (.inr hb))) Y aq).app _
theorem Ca.congr{S':Nat->St}(h:Ca t w N S Sh)(K:∀i,i<N->(S' i).E=(S i).E/\(S' i).H=(S i).H):Ca t w N S' Sh:=by
 refine⟨λi hi=>⟨by rw[(K i hi).1];exact(h.fits i hi).e,by rw[(K i hi).2];exact(h.fits i hi).h,by rw[(K i hi).1,(K i hi).2];exact(h.fits i hi).d⟩,λi j hi O U b=>?_,λi hi b=>?_,h.GV,h.clean,h.low,λi hi b=>?_,λi hi b=>?_⟩;rw[(K i hi).2,(K j O).1,(K j O).2];exact h.hh i j hi O U b;rw[(K i hi).1,(K i hi).2];exact h.sh i hi b;rw[(K i hi).2];exact h.kH i hi b;rw[(K i hi).1];exact h.kE i hi b
theorem Ca.less(h:Ca t w N S Sh){s':St}(ai:∀b o,s'.E b=some o->(S i).E b=some o)(al:∀b o,s'.H b=some o->(S i).H b=some o):Ca t w N (upd S i s') Sh:=by
 have Y:∀j b o,(upd S i s' j).E b=some o->(S j).E b=some o:=by
  intro j b o K;by_cases e:j=i;subst e;rw[upd_same] at K;exact ai b o K;rwa[upd_ne _ _ e] at K
 have e2:∀j b o,(upd S i s' j).H b=some o->(S j).H b=some o:=by
  intro j b o K;by_cases e:j=i;subst e;rw[upd_same] at K;exact al b o K;rwa[upd_ne _ _ e] at K
 have n1:∀j b,(S j).E b=none->(upd S i s' j).E b=none:=by
  intro j b hb;cases U:(upd S i s' j).E b with
  | none=>rfl
  | some o=>rw[Y j b o U] at hb;cases hb
 have n2:∀j b,(S j).H b=none->(upd S i s' j).H b=none:=by
  intro j b hb;cases U:(upd S i s' j).H b with
  | none=>rfl
  | some o=>rw[e2 j b o U] at hb;cases hb
 have p1:∀j b,(upd S i s' j).E b≠none->(S j).E b≠none:=λj b hb x=>hb (n1 j b x);have p2:∀j b,(upd S i s' j).H b≠none->(S j).H b≠none:=λj b hb x=>hb (n2 j b x);exact⟨λj O=>⟨λb o K=>(h.fits j O).e b o (Y j b o K),λb o K=>(h.fits j O).h b o (e2 j b o K),λb hb=>n2 j b ((h.fits j O).d b (p1 j b hb))⟩,
  λa c Z ac ag b hb=>⟨n2 c b (h.hh a c Z ac ag b (p2 a b hb)).1,n1 c b (h.hh a c Z ac ag b (p2 a b hb)).2⟩,
  λj O b hb=>⟨n2 j b (h.sh j O b hb).1,n1 j b (h.sh j O b hb).2⟩,h.GV,h.clean,h.low,
  λj O b hb=>h.kH j O b (p2 j b hb),λj O b hb=>h.kE j O b (p1 j b hb)⟩
theorem Ca.push(h:Ca t w N S Sh)(hi:i<N){E:LH}(ac:∀b o,E b=some o->(S i).E b=some o)
  (al:∀b,E b≠none->∀x a,touchAt t x=some a->Db a.loc=some b->a.write=true->Knows t N x):Ca t w (N+1) (upd S N ⟨E,λ_=>none,false⟩) Sh:=by
 have O:∀j,j<N->upd S N ⟨E,λ_=>none,false⟩ j=S j:=λj K=>upd_ne _ _ (by omega);have ap:∀b,E b≠none->(S i).E b≠none:=λb hb=>by let⟨o,Y⟩:=IP hb;rw[ac b o Y];simp
 have ai:∀b,(S i).E b=none->E b=none:=λb hb=>by
  cases ag:E b with
  | none=>rfl
  | some o=>rw[ac b o ag] at hb;cases hb
 have cs:∀j,j<N+1->j<N∨j=N:=λj K=>by omega
 constructor;intro j K;rcases cs j K with K | rfl;rw[O j K];exact h.fits j K;rw[upd_same];exact⟨λb o Y=>(h.fits i hi).e b o (ac b o Y),λb o Y=>(by cases Y),λb _=>V⟩
 .intro a c U Z am b hb;rcases cs a U with U | rfl
  .rw [O a U] at hb;rcases cs c Z with Z | rfl;rw[O c Z];exact h.hh a c U Z am b hb
   .rw [upd_same];refine⟨V,ai b ?_⟩;by_cases e:a=i
    .subst e;cases ag:(S a).E b with
     | none=>rfl
     | some o=>exact absurd ((h.fits a U).d b (by rw[ag];simp)) hb
    .exact(h.hh a i U hi e b hb).2
  .rw [upd_same] at hb;exact absurd V hb
 intro j K b hb;rcases cs j K with K | rfl;rw[O j K];exact h.sh j K b hb;rw[upd_same];exact⟨V,ai b (h.sh i hi b hb).2⟩;exact h.GV;exact h.clean;exact h.low;intro j K b hb;rcases cs j K with K | rfl;rw[O j K] at hb;exact h.kH j K b hb;rw[upd_same] at hb;exact absurd V hb;intro j K b hb;rcases cs j K with K | rfl;rw[O j K] at hb;exact h.kE j K b hb;rw[upd_same] at hb;exact al b hb
theorem Ca.share(h:Ca t w N S Sh)(hi:i<N){b₀:Nat}{o₀:Obj}(U:(S i).H b₀=some o₀):
  Ca t w N (upd S i {S i with H:=λb=>if b=b₀ then none else(S i).H b}) (λb=>Sh b∨b=b₀):=by
 have K:Ca t w N (upd S i {S i with H:=λb=>if b=b₀ then none else(S i).H b}) Sh:=
  h.less (λb o O=>O) (λb o O=>by simp only at O;split at O<;>first | (cases O;done) | exact O)
 have ac:b₀<w.heap.size:=by
  have:=(h.fits i hi).h b₀ o₀ U;rcases gD b₀ w.heap.size with Y | Y;exact Y;simp[qg Y] at this
 refine⟨K.fits,K.hh,λj Z b hb=>?_,λb hb=>hb.elim (K.GV b) (λe=>e▸ac),K.clean,K.low,K.kH,K.kE⟩;rcases hb with hb | rfl;exact K.sh j Z b hb
 .by_cases e:j=i
  .subst e;rw[upd_same];refine⟨by simp,?_⟩;cases ag:(S j).E b with
   | none=>rfl
   | some o=>have:=(h.fits j Z).d b (by rw[ag];simp);rw[U] at this;cases this
  .rw [upd_ne _ _ e];exact h.hh i j hi Z (qH e) b (by rw[U];simp)
end
end Pal
