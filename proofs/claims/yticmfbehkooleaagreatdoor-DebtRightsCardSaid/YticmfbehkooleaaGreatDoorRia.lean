/- DebtRights: a part (1 of 9) of the proof of its row. -/
import Derived.Conc.Own5
import Derived.Conc.Listed
import Derived.Conc.DeferLaws
import Derived.Orders
import Derived.Conc.Beside
set_option linter.all false
set_option maxRecDepth 100000
namespace Pal
open Go Go.Conc
theorem V{α:Sort _}{a:α}:a=a:=rfl
abbrev aX:=@List.mem_singleton
abbrev bI:=@List.getElem?_eq_getElem
abbrev dY:=@List.getElem?_eq_some_iff
abbrev d0:=@if_pos
abbrev d7:=@if_neg
abbrev d9:=@Prod.mk.injEq
abbrev ep:=@Option.some.inj
abbrev eF:=@Array.getElem?_eq_some_iff
abbrev eM:=@Bool.and_eq_true
abbrev fP:=@List.mem_cons
abbrev f4:=@List.getD_eq_getElem?_getD
abbrev f5:=@Array.getD_eq_getD_getElem?
abbrev f6:=@Array.getElem?_setIfInBounds_ne
abbrev f7:=@Nat.lt_or_ge
abbrev f8:=@List.perm_append_comm
abbrev f9:=@List.mem_cons_of_mem
abbrev ik:=@List.mem_append
abbrev no:=@List.getElem_mem
abbrev qG:=@List.not_mem_nil
abbrev qH:=@Nat.le_refl
abbrev qI:=@List.append_assoc
abbrev qJ:=@Array.getElem?_setIfInBounds_self_of_lt
abbrev qK:=@List.getElem?_append_right
abbrev qL:=@List.mem_of_getElem?
abbrev qM:=@Bool.toNat_false
abbrev qN:=@Nat.le_of_ble_eq_true
abbrev qO:=@List.getElem?_append_left
abbrev qP:=@Bool.false_eq_true
abbrev qQ:=@Array.getElem?_eq_none
abbrev qR:=@decide_eq_true
abbrev qS:=@congrArg
abbrev qT:=@List.length_append
abbrev qU:=@List.getElem?_set_ne
abbrev qV:=@Bool.toNat_true
abbrev qW:=@List.append_nil
abbrev qX:=@decide_eq_false
abbrev qY:=@List.length_set
abbrev qZ:=@List.mem_iff_getElem?
abbrev q0:=@List.eq_nil_of_length_eq_zero
abbrev q1:=@List.flatten_cons
abbrev q2:=@Ne.symm
abbrev q3:=@List.all_eq_true
abbrev q4:=@List.length_cons
abbrev q5:=@Array.getElem?_eq_getElem
abbrev q6:=@List.getElem?_toArray
abbrev q7:=@List.mem_range
abbrev q8:=@Nat.le_trans
abbrev q9:=@List.mem_map
abbrev ra:=@List.take_length
abbrev rb:=@List.getElem?_eq_none
abbrev rc:=@List.getElem?_set_self
abbrev re:=@Nat.mul_le_mul_right
abbrev rf:=@List.getElem?_map
abbrev rg:=@Option.map_eq_some_iff
abbrev rh:=@List.cons_append
abbrev ri:=@List.take_add_one
abbrev rj:=@List.getElem?_set
abbrev rk:=@Int.toNat_natCast
abbrev rl:=@Nat.zero_le
abbrev rm:=@List.mem_append_right
abbrev ro:=@Array.getElem?_toList
abbrev rp:=@List.Perm.append_left
abbrev rq:=@or_false
abbrev rr:=@if_false
abbrev rt:=@List.mem_append_left
abbrev ru:=@List.map_append
abbrev rv:=@Nat.pow_le_pow_right
abbrev ry:=@Option.some.injEq
abbrev rz:=@Nat.lt_of_lt_of_le
abbrev rC:=@Array.ext_getElem?
abbrev rD:=@Nat.eq_zero_or_pos
abbrev rE:=@Nat.add_zero
abbrev rF:=@Nat.succ_mul
abbrev rG:=@List.nil_append
abbrev rH:=@if_true
abbrev rJ:=@Option.toList_some
abbrev rO:=@Bool.or_eq_true
abbrev rQ:=@Array.getElem?_append_left
abbrev rR:=@List.getElem?_cons_zero
abbrev rS:=@List.nodup_append
abbrev rT:=@List.mem_cons_self
abbrev rU:=@List.length_take
abbrev rW:=@Array.ext'
abbrev rX:=@List.flatten_append
abbrev rY:=@Classical.choose_spec
abbrev rZ:=@Option.map_some
abbrev r4:=@List.getElem?_take
abbrev r5:=@List.length_map
abbrev r6:=@List.mem_toArray
abbrev r7:=@List.ext_getElem?
abbrev r8:=@List.map_cons
abbrev r9:=@List.length_singleton
abbrev sa:=@List.take_of_length_le
abbrev sb:=@List.length_range
abbrev sc:=@List.drop_eq_getElem_cons
abbrev sd:=@Decidable.byContradiction
abbrev se:=@Array.getElem?_modify
abbrev sf:=@List.length_replicate
abbrev sg:=@Array.mem_append
abbrev si:=@List.getElem?_cons_succ
abbrev sj:=@Nat.zero_add
abbrev sk:=@List.eraseIdx_append_of_length_le
abbrev sn:=@Array.getElem?_map
abbrev so:=@Bool.false_ne_true
abbrev sr:=@List.mem_or_eq_of_mem_set
abbrev ss:=@Array.mapM_eq_mapM_toList
abbrev su:=@Nat.add_mul
abbrev sw:=@List.set_set
abbrev sy:=@Nat.min_eq_left
abbrev sB:=@beq_iff_eq
abbrev sC:=@Nat.sub_zero
abbrev sD:=@List.eq_of_mem_replicate
abbrev sE:=@List.size_toArray
abbrev sF:=@decide_eq_true_eq
abbrev sG:=@Option.bind_eq_some_iff
abbrev sH:=@List.getElem?_replicate
abbrev sI:=@List.replicate_succ
abbrev sJ:=@List.mem_flatten
abbrev sK:=@List.perm_middle
abbrev sL:=@List.find?_cons_of_neg
abbrev sM:=@Nat.testBit_lt_two_pow
abbrev sN:=@of_decide_eq_false
abbrev sO:=@List.set_cons_zero
abbrev sP:=@Nat.zero_mul
abbrev sQ:=@Array.all_eq_true'
abbrev sR:=@List.mem_replicate
abbrev sS:=@Nat.lt_of_le_of_lt
abbrev sT:=@Int.fdiv_eq_ediv_of_nonneg
abbrev sU:=@Nat.add_assoc
abbrev sW:=@List.set_comm
abbrev sX:=@of_decide_eq_true
abbrev sY:=@Bool.eq_false_iff
abbrev sZ:=@List.foldl_append
abbrev s0:=@Nat.shiftRight_eq_div_pow
abbrev s3:=@Classical.byContradiction
abbrev s4:=@Nat.pow_lt_pow_right
abbrev s5:=@Decidable.of_not_not
abbrev s6:=@List.Perm.refl
abbrev s7:=@List.flatten_nil
abbrev s9:=@Array.toList_filter
abbrev ta:=@Bool.toNat_le
abbrev tb:=@Option.isSome_none
abbrev tc:=@List.nodup_cons
abbrev td:=@List.forIn_cons
abbrev tf:=@Bool.not_eq_true'
abbrev tg:=@Nat.or_lt_two_pow
abbrev th:=@Decidable.not_not
abbrev ti:=@Nat.sub_self
abbrev tj:=@List.forIn_nil
abbrev tk:=@iff_of_false
abbrev tl:=@Array.mem_toList_iff
abbrev tn:=@Nat.eq_of_testBit_eq
abbrev tp:=@List.mem_map_of_mem
abbrev tq:=@List.getElem?_range
abbrev tr:=@Std.Legacy.Range.forIn_eq_forIn_range'
abbrev ts:=@Nat.testBit_two_pow
abbrev tt:=@List.foldl_cons
abbrev tu:=@List.cons.injEq
abbrev tv:=@List.mem_filter
abbrev tx:=@Nat.testBit_and
abbrev tz:=@List.mem_take_iff_getElem
abbrev tA:=@Option.isSome_iff_exists
abbrev tB:=@List.set_cons_succ
abbrev tC:=@Array.append_empty
abbrev tD:=@Option.isSome_some
abbrev tE:=@Array.setIfInBounds_comm
abbrev tF:=@Array.forIn_toList
abbrev tG:=@List.zip_cons_cons
abbrev tH:=@List.find?_eq_none
abbrev tI:=@Bool.eq_false_or_eq_true
abbrev tJ:=@Nat.mod_lt
abbrev tK:=@Array.getElem?_extract
abbrev tL:=@Array.toList_map
abbrev tM:=@BitVec.toNat_and
abbrev tN:=@List.mem_flatMap
abbrev tO:=@Int.max_eq_right
abbrev tP:=@Int.min_eq_right
abbrev tQ:=@Array.mem_iff_getElem
abbrev tR:=@List.set_getElem_self
abbrev tS:=@Int.min_eq_left
abbrev tT:=@Int.max_eq_left
abbrev tU:=@List.take_append_of_le_length
abbrev tV:=@Nat.shiftLeft_add_eq_or_of_lt
abbrev tW:=@Array.getElem?_push
abbrev tX:=@List.length_pos_iff
abbrev tY:=@Array.length_toList
abbrev tZ:=@List.mapM_cons
abbrev t6:=@List.nodup_nil
abbrev t7:=@List.drop_zero
abbrev t8:=@List.getElem?_drop
abbrev t9:=@List.getElem?_concat_length
abbrev ua:=@List.pairwise_cons
abbrev ub:=@BitVec.toNat_ofInt
abbrev uc:=@Nat.testBit_two_pow_sub_one
abbrev ud:=@Int.lt_or_gt_of_ne
abbrev ue:=@List.take_set
abbrev uf:=@Classical.not_not
abbrev ug:=@List.exists_mem_of_ne_nil
abbrev uh:=@List.mem_of_mem_eraseIdx
abbrev ui:=@List.zipIdx_cons
abbrev uj:=@Nat.add_comm
abbrev uk:=@and_true
abbrev ul:=@Array.toList_inj
abbrev um:=@List.find?_range_eq_some
abbrev un:=@Nat.pow_succ
abbrev uo:=@List.drop_length
abbrev uq:=@List.length_eq_zero_iff
abbrev ur:=@Int.natCast_mul
abbrev ut:=@List.length_nil
abbrev uu:=@List.of_mem_zip
abbrev uv:=@BitVec.toNat_or
abbrev uw:=@Nat.and_le_left
abbrev ux:=@Nat.two_pow_pos
abbrev uy:=@Int.le_refl
abbrev uz:=@Bool.not_false
abbrev uB:=@Nat.testBit_or
abbrev uC:=@BitVec.ofInt_natCast
abbrev uD:=@List.mem_iff_getElem
abbrev uE:=@List.count_le_length
abbrev uF:=@List.mem_of_mem_take
abbrev uG:=@Bool.not_true
abbrev uH:=@Bool.false_or
abbrev uI:=@Nat.ne_of_lt
abbrev uJ:=@Nat.mul_comm
abbrev uK:=@List.map_nil
abbrev uL:=@iff_of_true
abbrev uM:=@congrFun
abbrev tR_(n m:Nat):Array Bool:=⟨List.replicate n true++List.replicate m false⟩
abbrev LH:=Nat->Option Obj
structure St where
 E:LH
 H:LH
 q:Bool
abbrev Ld_:=List Deferred
abbrev Ao_:=Array Oper
abbrev Li_:=List Item
abbrev Lf_:=List Frame
abbrev On_:=Option (Nat×Bool)
abbrev Ae_:=Array Edge
abbrev Gs_:=Goroutine->St->Prop
abbrev Lv_:=List Value
abbrev Av_:=Array Value
def St.get(s:St)(b:Nat):Option Obj:=match s.E b with | some o=>some o | none=>s.H b
structure Fits (s:St) (w:World):Prop where
 e:∀b o,s.E b=some o->w.heap[b]?=some o
 h:∀b o,s.H b=some o->w.heap[b]?=some o
 d:∀b,s.E b≠none->s.H b=none
variable{w:World}{o:Obj}
theorem Fits.get{s:St}(f:Fits s w){b:Nat}(h:s.get b=some o):w.heap[b]?=some o:=by
 unfold St.get at h;split at h;rename_i o' K;cases h;exact f.e _ _ K;exact f.h _ _ h
theorem Fits.Xx{s:St}(f:Fits s w){b:Nat}(h:s.H b=some o):b<w.heap.size:=by
 have:=f.h _ _ h;rcases f7 b w.heap.size with K | K;exact K;simp[qQ K] at this
theorem Fits.lt{s:St}(f:Fits s w){b:Nat}(h:s.get b=some o):b<w.heap.size:=by
 have:=f.get h;rcases f7 b w.heap.size with K | K;exact K;simp[qQ K] at this
def cellAt(o:Obj)(a:Addr):Option Value:=match o with | .cells c _ _=>if a.spot.isSome then none else c[a.off]? | _=>none
def frozenAt(o:Obj)(a:Addr):Bool:=match o with | .cells _ _ (lo,hi)=>lo<=a.off&&a.off<hi | _=>false
def shapeOf(o:Obj):Option (TypeId×Nat):=match o with | .cells c e _=>some (e,c.size) | _=>none
def CL:Value->Bool | .agg _ | .tuple _=>false | _=>true
def Lo(o:Obj)(a:Addr)(v:Value):Obj:=match o with | .cells c e f=>.cells (if a.spot.isSome then c else c.setIfInBounds a.off v) e f | o=>o
def KC(o:Obj):Bool:=match o with | .cells ..=>false | .chan ..=>false | .pending ..=>false | .view ..=>false | .number ..=>false | _=>true
def St.cell? (s:St)(a:Addr):Option Value:=(s.get a.block).bind (cellAt · a)
def St.upd(s:St)(b:Nat)(o:Obj):St:={s with H:=λx=>if x=b then some o else s.H x}
theorem Tp{a:Addr}(h:w.heap[a.block]?=some o):w.cell? a=cellAt o a:=by
 unfold World.cell? cellAt;rw[h];cases o<;>rfl
theorem SY{a:Addr}(h:w.heap[a.block]?=some o):w.frozen? a=frozenAt o a:=by
 unfold World.frozen? frozenAt;rw[h];cases o<;>rfl
theorem Yd{b:Nat}(h:w.heap[b]?=some o):w.shape? b=shapeOf o:=by
 unfold World.shape? shapeOf;rw[h];cases o<;>rfl
def lp(P:Program){α:Type}:Sem α->St->(α->St->Prop)->(Halt->St->Prop)->Prop
 | .pure a,s,Q,_=>Q a s
 | .load m a k,s,Q,X=>m=.plain/\∃v,s.cell? a=some v/\lp P (k v) s Q X
 | .store m a v k,s,Q,X=>m=.plain/\CL v=true/\∃o,s.H a.block=some o/\(cellAt o a).isSome=true/\frozenAt o a=false/\lp P k (s.upd a.block (Lo o a v)) Q X
 | .new o k,s,Q,X=>s.q=false/\∀r,s.E r=none->s.H r=none->lp P (k r) (s.upd r o) Q X
 | .shape r k,s,Q,X=>∃o,s.get r=some o/\lp P (k (shapeOf o)) s Q X
 | .freeze _ _ _,_,_,_=>False
 | .frozen a k,s,Q,X=>∃o,s.get a.block=some o/\lp P (k (frozenAt o a)) s Q X
 | .getObj r k,s,Q,X=>∃o,s.get r=some o/\KC o=true/\lp P (k o) s Q X
 | .setObj r o k,s,Q,X=>(∃o₀,s.H r=some o₀/\KC o₀=true)/\KC o=true/\lp P k (s.upd r o) Q X
 | .choose q k,s,Q,X=>if q.forced then lp P (k 0) s Q X else s.q=false/\∀t,lp P (k (q.cut t)) s Q X
 | .sys _ _,_,_,_=>False
 | .program k,s,Q,X=>lp P (k P) s Q X
 | .mark m k,s,Q,X=>((s.q=false/\m=.noRoom)∨∃f,m=.extern f)/\lp P k s Q X
 | .halt h,s,_,X=>X h s
variable{α:Type}
theorem EP{P:Program}(x:Sem α):∀{s:St}{Q Y:α->St->Prop}{X Z:Halt->St->Prop},lp P x s Q X->(∀a s,Q a s->Y a s)->(∀h s,X h s->Z h s)->lp P x s Y Z:=by
 induction x with
 | pure a=>intro s Q Y X Z h K O;exact K _ _ h
 | load m a k U=>intro s Q Y X Z h K O;obtain⟨ac,v,ag,ai⟩:=h;exact⟨ac,v,ag,U _ ai K O⟩
 | store m a v k U=>intro s Q Y X Z h K O;obtain⟨ac,ag,o,ai,al,am,ap⟩:=h;exact⟨ac,ag,o,ai,al,am,U ap K O⟩
 | new o k U=>intro s Q Y X Z h K O;exact⟨h.1,λr ac ag=>U _ (h.2 r ac ag) K O⟩
 | shape r k U=>intro s Q Y X Z h K O;obtain⟨o,ac,ag⟩:=h;exact⟨o,ac,U _ ag K O⟩
 | freeze a n k U=>intro s Q Y X Z h K O;exact h
 | frozen a k U=>intro s Q Y X Z h K O;obtain⟨o,ac,ag⟩:=h;exact⟨o,ac,U _ ag K O⟩
 | getObj r k U=>intro s Q Y X Z h K O;obtain⟨o,ac,ag,ai⟩:=h;exact⟨o,ac,ag,U _ ai K O⟩
 | setObj r o k U=>intro s Q Y X Z h K O;obtain⟨ac,ag,ai⟩:=h;exact⟨ac,ag,U ai K O⟩
 | choose q k U=>
  intro s Q Y X Z h K O;simp only[lp] at h ⊢;split;rename_i aj;rw[d0 aj] at h;exact U _ h K O;rename_i aj;rw[d7 aj] at h;exact⟨h.1,λt=>U _ (h.2 t) K O⟩
 | sys c k U=>intro s Q Y X Z h K O;exact h
 | program k U=>intro s Q Y X Z h K O;exact U _ h K O
 | mark m k U=>intro s Q Y X Z h K O;exact⟨h.1,U h.2 K O⟩
 | halt h=>intro s Q Y X Z h K O;exact O _ _ h
variable{β:Type}
theorem AA{P:Program}(x:Sem α)(f:α->Sem β):∀{s:St}{Q:β->St->Prop}{X:Halt->St->Prop},lp P x s (λa s'=>lp P (f a) s' Q X) X->lp P (x>>=f) s Q X:=by
 show ∀{s:St}{Q:β->St->Prop}{X:Halt->St->Prop},lp P x s (λa s'=>lp P (f a) s' Q X) X->lp P (Sem.bind x f) s Q X
 induction x with
 | pure a=>intro s Q X h;exact h
 | load m a k K=>intro s Q X h;obtain⟨O,v,U,Y⟩:=h;exact⟨O,v,U,K _ Y⟩
 | store m a v k K=>intro s Q X h;obtain⟨O,U,o,Y,ac,ag,ai⟩:=h;exact⟨O,U,o,Y,ac,ag,K ai⟩
 | new o k K=>intro s Q X h;exact⟨h.1,λr O U=>K _ (h.2 r O U)⟩
 | shape r k K=>intro s Q X h;obtain⟨o,O,U⟩:=h;exact⟨o,O,K _ U⟩
 | freeze a n k K=>intro s Q X h;exact h
 | frozen a k K=>intro s Q X h;obtain⟨o,O,U⟩:=h;exact⟨o,O,K _ U⟩
 | getObj r k K=>intro s Q X h;obtain⟨o,O,U,Y⟩:=h;exact⟨o,O,U,K _ Y⟩
 | setObj r o k K=>intro s Q X h;obtain⟨O,U,Y⟩:=h;exact⟨O,U,K Y⟩
 | choose q k K=>
  intro s Q X h;simp only[lp,Sem.bind] at h ⊢;split;rename_i Z;rw[d0 Z] at h;exact K _ h;rename_i Z;rw[d7 Z] at h;exact⟨h.1,λt=>K _ (h.2 t)⟩
 | sys c k K=>intro s Q X h;exact h
 | program k K=>intro s Q X h;exact K _ h
 | mark m k K=>intro s Q X h;exact⟨h.1,K h.2⟩
 | halt h=>intro s Q X h;exact h
structure Fr (s:St) (w:World) (s':St) (w':World):Prop where
 size:w.heap.size<=w'.heap.size
 keep:∀b,b<w.heap.size->s.H b=none->w'.heap[b]?=w.heap[b]?
 own:∀b,s'.H b≠none->s.H b≠none∨w.heap.size<=b
 ext:∀b o,s.E b=some o->s'.E b=some o
 FB:∀b,s'.E b≠none->s.E b≠none∨s.H b≠none∨w.heap.size<=b
 tape:w'.tape=w.tape
 os:w'.os=w.os
 output:w'.output=w.output
theorem Fr.refl(s:St)(w:World):Fr s w s w:=
 ⟨qH _,λ_ _ _=>V,λ_ h=>.inl h,λ_ _ h=>h,λ_ h=>.inl h,V,V,V⟩
variable{U:World}
theorem Fr.trans{s K O:St}{Y:World}(h:Fr s w K U)(k:Fr K U O Y):Fr s w O Y where
 size:=q8 h.size k.size
 keep b hb Z:=by
  rw[k.keep b (rz hb h.size) ?_,h.keep b hb Z];by_cases ac:K.H b=none;exact ac;rcases h.own b ac with x | x;exact absurd Z x;omega
 own b hb:=by
  rcases k.own b hb with x | x;exact h.own b x;exact .inr (q8 h.size x)
 ext b o ag:=k.ext b o (h.ext b o ag)
 FB b hb:=by
  rcases k.FB b hb with x | x | x;exact h.FB b x;rcases h.own b x with y | y;exact .inr (.inl y);exact .inr (.inr y);exact .inr (.inr (q8 h.size x))
 tape:=k.tape.trans h.tape
 os:=k.os.trans h.os
 output:=k.output.trans h.output
def Hv(s:St)(w w':World)(b:Nat)(write:Bool):Prop:=
 b<w'.heap.size/\(s.H b≠none∨w.heap.size<=b∨(s.E b≠none/\write=false))
def Ev(s:St)(w w':World)(e:Event):Prop:=
 match e.loc with
 | .cell a=>e.sync=false/\Hv s w w' a.block e.write
 | .obj r=>e.sync=false/\Hv s w w' r e.write
 | .mark (.extern _)=>True
 | .mark .noRoom=>True
 | _=>False
variable{O w':World}{wr:Bool}
theorem Hv.Ag{s K:St}{b:Nat}(h:Fr s w K O)(Y:w'.heap.size<=U.heap.size)(t:Hv K O w' b wr):Hv s w U b wr:=by
 refine⟨rz t.1 Y,?_⟩;rcases t.2 with x | x | ⟨x,y⟩;rcases h.own b x with z | z;exact .inl z;exact .inr (.inl z);exact .inr (.inl (q8 h.size x));rcases h.FB b x with z | z | z;exact .inr (.inr ⟨z,y⟩);exact .inl z;exact .inr (.inl z)
theorem Ev.Ag{s K:St}{e:Event}(h:Fr s w K O)(Y:w'.heap.size<=U.heap.size)(t:Ev K O w' e):Ev s w U e:=by
 unfold Ev at t ⊢;split<;>rename_i he<;>simp only[he] at t;exact⟨t.1,t.2.Ag h Y⟩;exact⟨t.1,t.2.Ag h Y⟩;trivial;trivial
def LC{α:Type}:Result α->World | .ok _ w=>w | .halt _ w=>w
def gF{α:Type}(Q:α->St->Prop)(X:Halt->St->Prop)(s:St):Result α->Prop | .ok a _=>Q a s | .halt h _=>X h s
theorem UJ{s:St}{b:Nat}(h:s.get b=some o)(K:s.H b=none):s.E b≠none:=by
 intro e;unfold St.get at h;rw[e] at h;simp only at h;rw[K] at h;cases h
theorem Ra{s:St}{b:Nat}(f:Fits s w)(U:s.E b=none)(hb:w'.heap[b]?=some o)(Y:∀c,c≠b->∀x,w.heap[c]?=some x->w'.heap[c]?=some x):Fits (s.upd b o) w' where
 e c x K:=by
  have O:c≠b:=λe=>by subst e;simp[St.upd] at K;rw[U] at K;cases K
  exact Y c O x (f.e c x K)
 h c x K:=by
  simp only[St.upd] at K;split at K;rename_i e;subst e;cases K;exact hb;rename_i O;exact Y c O x (f.h c x K)
 d c K:=by
  have O:c≠b:=λe=>by subst e;exact K U
  simp only[St.upd,d7 O];exact f.d c K
theorem Ot{P:Program}(x:Sem α):∀{s:St}{w:World}{Q:α->St->Prop}{X:Halt->St->Prop},lp P x s Q X->Fits s w->
  ∃s',Fits s' (LC (x.run P w))/\Fr s w s' (LC (x.run P w))/\(∀e∈x.events P w #[],Ev s w (LC (x.run P w)) e)/\gF Q X s' (x.run P w):=by
 induction x with
 | pure a=>intro s w Q X h f;exact⟨s,f,.refl _ _,by simp[Sem.events_pure'],h⟩
 | load m a k O=>
  intro s w Q X h f;obtain⟨rfl,v,a5,h⟩:=h;let⟨o,K,bv⟩:=sG.1 a5;have hw:=f.get K;have a6:w.cell? a=some v:=by rw[Tp hw,bv]
  have U:(Sem.load Mode.plain a k).run P w=(k v).run P w:=by simp[Sem.run,a6]
  have Y:(Sem.load Mode.plain a k).events P w #[]=#[⟨.cell a,false,false⟩]++(k v).events P w #[]:=by
   rw[← Sem.events_acc];simp only[Sem.events,Sem.runT,a6];rfl
  rw[U,Y];let⟨s',ac,Z,ag,ai⟩:=O v h f;refine⟨s',ac,Z,λe he=>?_,ai⟩;rcases sg.1 he with he | he;simp at he;subst he;refine⟨V,rz (f.lt K) Z.size,?_⟩;by_cases a0:s.H a.block=none;refine .inr (.inr ⟨?_,V⟩);exact UJ K a0;exact .inl a0;exact ag e he
 | store m a v k O=>
  intro s w Q X h f;obtain⟨rfl,a5,o,K,a6,bw,h⟩:=h;have hw:=f.h _ _ K;let⟨u,hu⟩:=tA.1 a6;have be:w.cell? a=some u:=by rw[Tp hw,hu]
  have bg:w.frozen? a=false:=by rw[SY hw,bw]
  have a7:=f.Xx K;obtain⟨a9,bb,f0,rfl⟩:∃c e f,o=.cells c e f:=by cases o<;>simp[cellAt] at hu;exact⟨_,_,_,V⟩
  have bx:(w.setCell a v).heap[a.block]?=some (Lo (.cells a9 bb f0) a v):=by
   simp[World.setCell,Lo,se,hw]
  have a1:∀c,c≠a.block->(w.setCell a v).heap[c]?=w.heap[c]? :=by
   intro c am;simp[World.setCell,se,q2 am]
  have al:s.E a.block=none:=by
   cases al:s.E a.block with
   | none=>rfl
   | some x=>have:=f.d a.block (by rw[al];simp);rw[K] at this;cases this
  have a2:Fits (s.upd a.block (Lo (.cells a9 bb f0) a v)) (w.setCell a v):=Ra f al bx (λc am x ap=>by rw[a1 c am];exact ap);have U:(Sem.store Mode.plain a v k).run P w=k.run P (w.setCell a v):=by
   cases v<;>first | (simp[CL] at a5;done) | simp[Sem.run,be,bg]
  have Y:(Sem.store Mode.plain a v k).events P w #[]=#[⟨.cell a,true,false⟩]++k.events P (w.setCell a v) #[]:=by
   rw[← Sem.events_acc];cases v<;>first | (simp[CL] at a5;done) | (simp only[Sem.events,Sem.runT,be,bg];rfl)
  have aj:Fr s w (s.upd a.block (Lo (.cells a9 bb f0) a v)) (w.setCell a v):=by
   refine⟨by simp[World.setCell],λb hb aq=>a1 b (λe=>by subst e;rw[K] at aq;cases aq),λb hb=>?_,λ_ _ h=>h,λ_ h=>.inl h,V,V,V⟩;simp only[St.upd] at hb;split at hb;rename_i e;subst e;exact .inl (by rw[K];simp);exact .inl hb
  rw[U,Y];let⟨s',ac,Z,ag,ai⟩:=O h a2;refine⟨s',ac,aj.trans Z,λe he=>?_,ai⟩;rcases sg.1 he with he | he;simp at he;subst he;exact⟨V,rz a7 (aj.trans Z).size,.inl (by rw[K];simp)⟩;exact(ag e he).Ag aj (qH _)
 | new o k O=>
  intro s w Q X h f;have bi:s.E w.heap.size=none:=by
   cases al:s.E w.heap.size with
   | none=>rfl
   | some x=>have:=f.e _ _ al;simp at this
  have b0:s.H w.heap.size=none:=by
   cases al:s.H w.heap.size with
   | none=>rfl
   | some x=>have:=f.h _ _ al;simp at this
  have U:(Sem.new o k).run P w=(k w.heap.size).run P {w with heap:=w.heap.push o}:=by simp[Sem.run]
  have Y:(Sem.new o k).events P w #[]=(k w.heap.size).events P {w with heap:=w.heap.push o} #[]:=by simp only[Sem.events,Sem.runT]
  rw[U,Y];have a2:Fits (s.upd w.heap.size o) {w with heap:=w.heap.push o}:=Ra f bi (by simp) (λc am x ap=>by
   have:c<w.heap.size:=by
    rcases f7 c w.heap.size with a3 | a3;exact a3;simp[qQ a3] at ap
   simp[tW,uI this,ap])
  have aj:Fr s w (s.upd w.heap.size o) {w with heap:=w.heap.push o}:=by
   refine⟨by simp,λb hb aq=>by simp[tW,uI hb],λb hb=>?_,λ_ _ h=>h,λ_ h=>.inl h,V,V,V⟩;simp only[St.upd] at hb;split at hb;rename_i e;subst e;exact .inr (qH _);exact .inl hb
  let⟨s',ac,Z,ag,ai⟩:=O _ (h.2 _ bi b0) a2;exact⟨s',ac,aj.trans Z,λe he=>(ag e he).Ag aj (qH _),ai⟩
 | shape r k O=>
  intro s w Q X h f;obtain⟨o,K,h⟩:=h;have a4:=Yd (f.get K);have U:(Sem.shape r k).run P w=(k (shapeOf o)).run P w:=by simp[Sem.run,a4]
  have Y:(Sem.shape r k).events P w #[]=(k (shapeOf o)).events P w #[]:=by simp only[Sem.events,Sem.runT,a4]
  rw[U,Y];exact O _ h f
 | freeze a n k O=>intro s w Q X h f;exact h.elim
 | frozen a k O=>
  intro s w Q X h f;obtain⟨o,K,h⟩:=h;have a4:=SY (a:=a) (f.get K);have U:(Sem.frozen a k).run P w=(k (frozenAt o a)).run P w:=by simp[Sem.run,a4]
  have Y:(Sem.frozen a k).events P w #[]=(k (frozenAt o a)).events P w #[]:=by simp only[Sem.events,Sem.runT,a4]
  rw[U,Y];exact O _ h f
 | getObj r k O=>
  intro s w Q X h f;obtain⟨o,K,a8,h⟩:=h;have hw:=f.get K;have U:(Sem.getObj r k).run P w=(k o).run P w:=by cases o<;>simp[KC] at a8<;>simp[Sem.run,hw]
  have Y:(Sem.getObj r k).events P w #[]=#[⟨.obj r,false,false⟩]++(k o).events P w #[]:=by
   rw[← Sem.events_acc];cases o<;>simp[KC] at a8<;>(simp only[Sem.events,Sem.runT,hw,Obj.isChan];rfl)
  rw[U,Y];let⟨s',ac,Z,ag,ai⟩:=O o h f;refine⟨s',ac,Z,λe he=>?_,ai⟩;rcases sg.1 he with he | he;simp at he;subst he;refine⟨V,rz (f.lt K) Z.size,?_⟩;by_cases a0:s.H r=none;refine .inr (.inr ⟨?_,V⟩);exact UJ K a0;exact .inl a0;exact ag e he
 | setObj r o k O=>
  intro s w Q X h f;obtain⟨⟨o₀,K,bo⟩,a8,h⟩:=h;have hw:=f.h _ _ K;have a7:=f.Xx K;have al:s.E r=none:=by
   cases al:s.E r with
   | none=>rfl
   | some x=>have:=f.d r (by rw[al];simp);rw[K] at this;cases this
  have U:(Sem.setObj r o k).run P w=k.run P {w with heap:=w.heap.setIfInBounds r o}:=by
   cases o₀<;>simp[KC] at bo<;>simp[Sem.run,hw]
  have Y:(Sem.setObj r o k).events P w #[]=#[⟨.obj r,true,false⟩]++k.events P {w with heap:=w.heap.setIfInBounds r o} #[]:=by
   rw[← Sem.events_acc];cases o₀<;>simp[KC] at bo<;>cases o<;>simp[KC] at a8<;>(simp only[Sem.events,Sem.runT,hw,Obj.isChan];rfl)
  have a1:∀c,c≠r->(w.heap.setIfInBounds r o)[c]?=w.heap[c]? :=λc am=>by simp[q2 am]
  have a2:Fits (s.upd r o) {w with heap:=w.heap.setIfInBounds r o}:=Ra f al (by simp[a7]) (λc am x ap=>by show(w.heap.setIfInBounds r o)[c]?=_;rw[a1 c am];exact ap);have aj:Fr s w (s.upd r o) {w with heap:=w.heap.setIfInBounds r o}:=by
   refine⟨by simp,λb hb aq=>a1 b (λe=>by subst e;rw[K] at aq;cases aq),λb hb=>?_,λ_ _ h=>h,λ_ h=>.inl h,V,V,V⟩;simp only[St.upd] at hb;split at hb;rename_i e;subst e;exact .inl (by rw[K];simp);exact .inl hb
  rw[U,Y];let⟨s',ac,Z,ag,ai⟩:=O h a2;refine⟨s',ac,aj.trans Z,λe he=>?_,ai⟩;rcases sg.1 he with he | he;simp at he;subst he;exact⟨V,rz a7 (aj.trans Z).size,.inl (by rw[K];simp)⟩;exact(ag e he).Ag aj (qH _)
 | choose q k O=>
  intro s w Q X h f;simp only[lp] at h;by_cases aw:q.forced
  .rw [d0 aw] at h;have U:(Sem.choose q k).run P w=(k 0).run P w:=by simp[Sem.run,aw]
   have Y:(Sem.choose q k).events P w #[]=(k 0).events P w #[]:=by simp only[Sem.events,Sem.runT];rw[d0 aw]
   rw[U,Y];exact O _ h f
  .rw [d7 aw] at h;have U:(Sem.choose q k).run P w=(k (q.cut (w.tape w.drawn q))).run P {w with drawn:=w.drawn+1}:=by simp[Sem.run,aw]
   have Y:(Sem.choose q k).events P w #[]=(k (q.cut (w.tape w.drawn q))).events P {w with drawn:=w.drawn+1} #[]:=by simp only[Sem.events,Sem.runT];rw[d7 aw]
   rw[U,Y];have aj:Fr s w s {w with drawn:=w.drawn+1}:=⟨qH _,λ_ _ _=>rfl,λ_ h=>.inl h,λ_ _ h=>h,λ_ h=>.inl h,rfl,rfl,rfl⟩;let⟨s',ac,Z,ag,ai⟩:=O _ (h.2 (w.tape w.drawn q)) (⟨f.e,f.h,f.d⟩:Fits s {w with drawn:=w.drawn+1});exact⟨s',ac,aj.trans Z,λe he=>(ag e he).Ag aj (qH _),ai⟩
 | sys c k O=>intro s w Q X h f;exact h.elim
 | program k O=>
  intro s w Q X h f;have U:(Sem.program k).run P w=(k P).run P w:=by simp[Sem.run]
  have Y:(Sem.program k).events P w #[]=(k P).events P w #[]:=by simp only[Sem.events,Sem.runT]
  rw[U,Y];exact O _ h f
 | mark m k O=>
  intro s w Q X h f;have U:(Sem.mark m k).run P w=k.run P w:=by simp[Sem.run]
  have Y:(Sem.mark m k).events P w #[]=#[⟨.mark m,false,true⟩]++k.events P w #[]:=by
   rw[← Sem.events_acc];simp only[Sem.events,Sem.runT];rfl
  rw[U,Y];obtain⟨hm,h⟩:=h;let⟨s',ac,Z,ag,ai⟩:=O h f;refine⟨s',ac,Z,λe he=>?_,ai⟩;rcases sg.1 he with he | he;simp at he;subst he;rcases hm with⟨_,rfl⟩ | ⟨g,rfl⟩<;>trivial;exact ag e he
 | halt h=>intro s w Q X a3 f;exact⟨s,f,.refl _ _,by simp[Sem.events_halt],a3⟩
variable{es:Array Event}
theorem S6{P:Program}{fn:FuncId}(h:∀e∈es,∃f,e.loc=.mark (.extern f)):seen P fn es=#[]:=by
 rw[seen_def];have:∀(l:List Event) (q:Bool),(∀e∈l,∃f,e.loc=.mark (.extern f))->(l.foldl (seenStep λf=>(P.funcs[f]?).any (·.norace)) (q,#[])).2=#[]:=by
  intro l
  induction l with
  | nil=>intro q _;rfl
  | cons e l K=>
   intro q h;obtain⟨f,O⟩:=h e (by simp);rw[tt];have:seenStep (λf=>(P.funcs[f]?).any (·.norace)) (q,#[]) e=((P.funcs[f]?).any (·.norace),#[]):=by simp[seenStep,O]
   rw[this];exact K _ λx U=>h x (by simp[U])
 exact this es.toList _ λe he=>h e (tl.1 he)
def St.quiet:St:=⟨λ_=>none,λ_=>none,true⟩
theorem UI{P:Program}(x:Sem α):∀{Q:α->St->Prop}{X:Halt->St->Prop},lp P x .quiet Q X->
  ∃es,(∀w,x.events P w #[]=es)/\(∀e∈es,∃f,e.loc=.mark (.extern f))/\((∃a,Q a .quiet/\(∀w,x.run P w=.ok a w))∨(∃a,X a .quiet/\(∀w,x.run P w=.halt a w))):=by
 induction x with
 | pure a=>intro Q X h;exact⟨#[],λw=>by simp[Sem.events_pure'],by simp,.inl ⟨a,h,λw=>rfl⟩⟩
 | load m a k K=>intro Q X h;obtain⟨_,v,Z,_⟩:=h;simp[St.cell?,St.get,St.quiet] at Z
 | store m a v k K=>intro Q X h;obtain⟨_,_,o,ac,_⟩:=h;cases ac
 | new o k K=>intro Q X h;cases h.1
 | shape r k K=>intro Q X h;obtain⟨o,O,_⟩:=h;simp[St.get,St.quiet] at O
 | freeze a n k K=>intro Q X h;exact h.elim
 | frozen a k K=>intro Q X h;obtain⟨o,O,_⟩:=h;simp[St.get,St.quiet] at O
 | getObj r k K=>intro Q X h;obtain⟨o,O,_⟩:=h;simp[St.get,St.quiet] at O
 | setObj r o k K=>intro Q X h;obtain⟨⟨o,O,_⟩,_⟩:=h;cases O
 | choose q k K=>
  intro Q X h;simp only[lp] at h;by_cases U:q.forced
  .rw [d0 U] at h;have Y:∀w,(Sem.choose q k).run P w=(k 0).run P w:=λw=>by simp[Sem.run,U]
   have e2:∀w,(Sem.choose q k).events P w #[]=(k 0).events P w #[]:=λw=>by simp only[Sem.events,Sem.runT];rw[d0 U]
   simpa only[Y,e2] using K _ h
  .rw [d7 U] at h;cases h.1
 | sys c k K=>intro Q X h;exact h.elim
 | program k K=>
  intro Q X h;have Y:∀w,(Sem.program k).run P w=(k P).run P w:=λw=>by simp[Sem.run]
  have e2:∀w,(Sem.program k).events P w #[]=(k P).events P w #[]:=λw=>by simp only[Sem.events,Sem.runT]
  simpa only[Y,e2] using K _ h
 | mark m k K=>
  intro Q X h;obtain⟨hm,h⟩:=h;let⟨es,O,Z,ac⟩:=K h;have Y:∀w,(Sem.mark m k).run P w=k.run P w:=λw=>by simp[Sem.run]
  have e2:∀w,(Sem.mark m k).events P w #[]=#[⟨.mark m,false,true⟩]++k.events P w #[]:=λw=>by rw[← Sem.events_acc];simp only[Sem.events,Sem.runT];rfl
  refine⟨#[⟨.mark m,false,true⟩]++es,λw=>by rw[e2,O],λe he=>?_,by simpa only[Y] using ac⟩;rcases sg.1 he with he | he;simp at he;subst he;rcases hm with⟨U,_⟩ | hm;cases U;obtain⟨f,rfl⟩:=hm;exact⟨f,V⟩;exact Z e he
 | halt h=>intro Q X ag;exact⟨#[],λw=>by simp[Sem.events_halt],by simp,.inr ⟨h,ag,λw=>rfl⟩⟩
def Wx(P:Program)(main:Bool)(g:Goroutine)(s:St)(K:Gs_):Prop:=
 g.status=.running/\(∀w,Fits s w->
  ∃g' s' w' es,stepG P main g w=.go g' w' es/\K g' s'/\Fits s' w'/\Fr s w s' w'/\(∀e∈es,Ev s w w' e))/\
  (s=.quiet->∃g',(∀w,stepG P main g w=.go g' w #[])/\K g' .quiet)
structure CK (s s₀:St):Prop where
 ext:∀b o,s.E b=some o->s₀.E b=some o
 own:∀b o,s₀.H b=some o->s.H b=some o
 FB:∀b o,s₀.E b=some o->s.E b=some o∨(s.H b=some o/\s₀.H b=none)
 q:s₀.q=s.q
theorem CK.refl(s:St):CK s s:=⟨λ_ _ h=>h,λ_ _ h=>h,λ_ _ h=>.inl h,V⟩
variable{s₀:St}
theorem CK.fits{s:St}(g:CK s s₀)(f:Fits s w):Fits s₀ w where
 e b o h:=by
  rcases g.FB b o h with x | x;exact f.e _ _ x;exact f.h _ _ x.1
 h b o h:=f.h _ _ (g.own _ _ h)
 d b h:=by
  cases K:s₀.E b with
  | none=>exact absurd K h
  | some o=>
   rcases g.FB b o K with x | x
   .cases O:s₀.H b with
    | none=>rfl
    | some y=>have:=g.own _ _ O;rw[f.d b (by rw[x];simp)] at this;cases this
   .exact x.2
theorem IT{x:Option α}(h:x≠none):∃a,x=some a:=by cases x<;>simp at h;exact⟨_,rfl⟩
theorem CK.fr{s s':St}(g:CK s s₀)(f:Fr s₀ w s' w'):Fr s w s' w' where
 size:=f.size
 keep b hb O:=f.keep b hb (by
  cases h:s₀.H b with
  | none=>rfl
  | some o=>rw[g.own _ _ h] at O;cases O)
 own b hb:=(f.own b hb).imp (λh=>by let⟨o,K⟩:=IT h;rw[g.own _ _ K];simp) id
 ext b o h:=f.ext _ _ (g.ext _ _ h)
 FB b hb:=by
  rcases f.FB b hb with h | h | h;let⟨o,K⟩:=IT h;rcases g.FB _ _ K with x | x;exact .inl (by rw[x];simp);exact .inr (.inl (by rw[x.1];simp));let⟨o,K⟩:=IT h;exact .inr (.inl (by rw[g.own _ _ K];simp));exact .inr (.inr h)
 tape:=f.tape
 os:=f.os
 output:=f.output
theorem CK.Hv{s:St}{b:Nat}(g:CK s s₀)(t:Hv s₀ w w' b wr):Hv s w w' b wr:=by
 refine⟨t.1,?_⟩;rcases t.2 with h | h | ⟨h,hw⟩;let⟨o,K⟩:=IT h;exact .inl (by rw[g.own _ _ K];simp);exact .inr (.inl h);let⟨o,K⟩:=IT h;rcases g.FB _ _ K with x | x;exact .inr (.inr ⟨by rw[x];simp,hw⟩);exact .inl (by rw[x.1];simp)
theorem CK.ev{s:St}{e:Event}(g:CK s s₀)(t:Ev s₀ w w' e):Ev s w w' e:=by
 unfold Ev at t ⊢;split<;>rename_i he<;>simp only[he] at t;exact⟨t.1,g.Hv t.2⟩;exact⟨t.1,g.Hv t.2⟩;trivial;trivial
theorem CK.quiet(g:CK .quiet s₀):s₀=.quiet:=by
 obtain⟨E,H,q⟩:=s₀;have K:E=λ_=>none:=by
  funext b;cases h:E b with
  | none=>rfl
  | some o=>rcases g.FB b o h with x | ⟨x,_⟩<;>cases x
 have O:H=λ_=>none:=by
  funext b;cases h:H b with
  | none=>rfl
  | some o=>cases g.own b o h
 have U:q=true:=g.q;subst K O U;rfl
inductive Rk:Type where
 | leaf:Rk
 | node (f:World->Rk):Rk
def Rk.sub(a b:Rk):Prop:=∃f w,b=.node f/\a=f w
theorem Rk.wf:WellFounded Rk.sub:=⟨λr=>by
 induction r with
 | leaf=>exact⟨_,λa ⟨f,w,h,_⟩=>by cases h⟩
 | node f K=>exact⟨_,λa ⟨g,w,h,e⟩=>by cases h;subst e;exact K w⟩⟩
def Jr(P:Program)(main:Bool)(Q:Gs_):Rk->Gs_
 | .leaf,g,s=>Q g s
 | .node f,g,s=>Q g s∨(g.status=.running/\∀w,Fits s w->
  ∃g' s' w' es,stepG P main g w=.go g' w' es/\Jr P main Q (f w) g' s'/\Fits s' w'/\Fr s w s' w'/\(∀e∈es,Ev s w w' e)/\(s=.quiet->s'=.quiet/\w'=w/\es=#[]))
structure Judge (P:Program) where
 main:Bool
 ok:(Gs_)->Gs_
 stop:∀{Q g s},Q g s->ok Q g s
 step:∀{Q g s},Wx P main g s (ok Q)->ok Q g s
 trans:∀{Q R g s},ok Q g s->(∀g' s',Q g' s'->ok R g' s')->ok R g s
 ghost:∀{Q g s s₀},CK s s₀->ok Q g s₀->ok Q g s
def JQ(Q:Gs_)(g:Goroutine)(s:St):Prop:=∃s₀,CK s s₀/\Q g s₀
theorem CK.trans{a b c:St}(h:CK a b)(k:CK b c):CK a c where
 ext x o y:=k.ext _ _ (h.ext _ _ y)
 own x o y:=h.own _ _ (k.own _ _ y)
 FB x o y:=by
  rcases k.FB x o y with z | z
  .rcases h.FB x o z with u | u;exact .inl u
   .refine .inr ⟨u.1,?_⟩;cases K:c.H x with
    | none=>rfl
    | some v=>have:=k.own _ _ K;rw[u.2] at this;cases this
  .exact .inr ⟨h.own _ _ z.1,z.2⟩
 q:=k.q.trans h.q
def Bd(P:Program)(main:Bool):Judge P where
 main:=main
 ok Q g s:=∃r,Jr P main (JQ Q) r g s
 stop h:=⟨.leaf,_,.refl _,h⟩
 step {Q g s} h:=by
  obtain⟨U,h,hu⟩:=h;have ag:∀w,∃r:Rk,Fits s w->∃g' s' w' es,stepG P main g w=.go g' w' es/\Jr P main (JQ Q) r g' s'/\Fits s' w'/\Fr s w s' w'/\(∀e∈es,Ev s w w' e)/\(s=.quiet->s'=.quiet/\w'=w/\es=#[]):=by
   intro w;by_cases f:Fits s w
   .by_cases e:s=.quiet
    .let⟨g',K,r,O⟩:=hu e;exact⟨r,λ_=>⟨g',.quiet,w,#[],K w,O,e▸f,e▸ .refl _ _,by simp,λ_=>⟨V,V,V⟩⟩⟩
    .let⟨g',s',w',es,K,⟨r,O⟩,Z,ai,aj⟩:=h w f;exact⟨r,λ_=>⟨g',s',w',es,K,O,Z,ai,aj,λx=>absurd x e⟩⟩
   .exact⟨.leaf,λx=>absurd x f⟩
  exact⟨.node λw=>Classical.choose (ag w),.inr ⟨U,λw f=>rY (ag w) f⟩⟩
 trans {Q R g s} h k:=by
  obtain⟨r,h⟩:=h;have am:∀(r:Rk) {g:Goroutine}{s s₀:St},CK s s₀->Jr P main (JQ R) r g s₀->Jr P main (JQ R) r g s:=by
   intro r g s s₀ Y hj;cases r with
   | leaf=>obtain⟨ac,K,O⟩:=hj;exact⟨ac,Y.trans K,O⟩
   | node f=>
    rcases hj with⟨ac,K,O⟩ | ⟨U,hj⟩
    .exact .inl ⟨ac,Y.trans K,O⟩
    .exact .inr ⟨U,λw f=>let ⟨g',s',w',es,K,O,Z,ai,aj,al⟩:=hj w (Y.fits f);⟨g',s',w',es,K,O,Z,Y.fr ai,λe he=>Y.ev (aj e he),λe=>al (by subst e;exact Y.quiet)⟩⟩
  induction r generalizing g s with
  | leaf=>
   obtain⟨s₀,K,O⟩:=h;let⟨r,U⟩:=k _ _ O;exact⟨r,am r K U⟩
  | node f aq=>
   rcases h with⟨s₀,K,O⟩ | ⟨U,h⟩
   .let⟨r,U⟩:=k _ _ O;exact⟨r,am r K U⟩
   .have ag:∀w,∃r:Rk,Fits s w->∃g' s' w' es,stepG P main g w=.go g' w' es/\Jr P main (JQ R) r g' s'/\Fits s' w'/\Fr s w s' w'/\(∀e∈es,Ev s w w' e)/\(s=.quiet->s'=.quiet/\w'=w/\es=#[]):=by
     intro w;by_cases ap:Fits s w
     .let⟨g',s',w',es,K,O,Z⟩:=h w ap;let⟨r,U⟩:=aq w O;exact⟨r,λ_=>⟨g',s',w',es,K,U,Z⟩⟩
     .exact⟨.leaf,λx=>absurd x ap⟩
    exact⟨.node λw=>Classical.choose (ag w),.inr ⟨U,λw f=>rY (ag w) f⟩⟩
 ghost {Q g s s₀} Y h:=by
  obtain⟨r,hj⟩:=h;refine⟨r,?_⟩;cases r with
  | leaf=>obtain⟨ac,K,O⟩:=hj;exact⟨ac,Y.trans K,O⟩
  | node f=>
   rcases hj with⟨ac,K,O⟩ | ⟨U,hj⟩
   .exact .inl ⟨ac,Y.trans K,O⟩
   .exact .inr ⟨U,λw f=>let ⟨g',s',w',es,K,O,Z,ai,aj,al⟩:=hj w (Y.fits f);⟨g',s',w',es,K,O,Z,Y.fr ai,λe he=>Y.ev (aj e he),λe=>al (by subst e;exact Y.quiet)⟩⟩
def Lv(P:Program)(Q:Gs_):Nat->Goroutine->Prop
 | 0,g=>Q g .quiet
 | n+1,g=>Q g .quiet∨(g.status=.running/\∃g',(∀w,stepG P false g w=.go g' w #[])/\Lv P Q n g')
def IY(P:Program):Judge P where
 main:=false
 ok Q g s:=s=.quiet->∃n,Lv P Q n g
 stop h e:=⟨0,by subst e;exact h⟩
 step {Q g s} h e:=by
  let⟨g',K,O⟩:=h.2.2 e;let⟨n,U⟩:=O V;exact⟨n+1,.inr ⟨h.1,g',K,U⟩⟩
 trans {Q R g s} h k e:=by
  let⟨n,U⟩:=h e;have:∀n g,Lv P Q n g->∃m,Lv P R m g:=by
   intro n
   induction n with
   | zero=>intro g h;exact k _ _ h rfl
   | succ n Y=>
    intro g h;rcases h with h | ⟨Z,g',K,O⟩
    .exact k _ _ h V
    .let⟨m,hm⟩:=Y g' O;exact⟨m+1,.inr ⟨Z,g',K,hm⟩⟩
  exact this n g U
 ghost {Q g s s₀} ac h e:=by subst e;exact h ac.quiet
def fr(b:Frame)(T:Av_)(ds:Ld_)(todo:Li_):Frame:={b with tmps:=T,todo:=todo,defers:=ds,mode:=.run}
def Fa(b:Frame)(T:Av_)(ds:Ld_)(todo:Li_):Frame:={b with tmps:=T,todo:=todo,defers:=ds,mode:=.returning}
def BM(T:Av_):Operand->Value
 | .tmp t=>T.getD t undef
 | .const v=>v
 | .global g=>.pointer (some ⟨g,0,none⟩)
 | .func f=>.func (.func f) #[] #[]
abbrev Env:=List (Nat×Value)
def look:Env->Nat->Option Value
 | [],_=>none
 | (t,v)::L,u=>if t=u then some v else look L u
def ev(L:Env):Operand->Option Value
 | .tmp t=>look L t
 | .const v=>some v
 | .global g=>some (.pointer (some ⟨g,0,none⟩))
 | .func f=>some (.func (.func f) #[] #[])
structure Has (n:Nat) (L:Env) (T:Av_):Prop where
 size:T.size=n
 at_:∀t v,look L t=some v->T.getD t undef=v
variable{T:Av_}
theorem Has.ev{n:Nat}{L:Env}(h:Has n L T){x:Operand}{v:Value}(e:ev L x=some v):BM T x=v:=by
 cases x with
 | tmp t=>exact h.at_ t v e
 | const u=>cases e;rfl
 | global g=>cases e;rfl
 | func f=>cases e;rfl
def Dl(T:Av_):Option Tmp->Value->Av_
 | some d,v=>T.setIfInBounds d v
 | none,_=>T
def AE(L:Env):Option Tmp->Value->Env
 | some d,v=>(d,v)::L
 | none,_=>L
def BA(n:Nat):Option Tmp->Bool
 | some d=>d<n
 | none=>true
theorem bj(T:Av_)(d:Nat)(v:Value)(h:d<T.size)(t:Nat):(T.setIfInBounds d v).getD t undef=if d=t then v else T.getD t undef:=by
 by_cases e:d=t;subst e;simp[f5,h];simp[f5,e]
theorem Has.put{n:Nat}{L:Env}(h:Has n L T){d:Option Tmp}(hd:BA n d=true)(v:Value):Has n (AE L d v) (Dl T d v):=by
 cases d with
 | none=>exact h
 | some d=>
  have K:d<T.size:=by rw[h.size];simpa [BA] using hd
  refine⟨by simp[Dl,h.size],λt u hu=>?_⟩;simp only[Dl,bj T d v K];simp only[AE,look] at hu;split at hu;rename_i e;rw[d0 e];exact ep hu;rename_i e;rw[d7 e];exact h.at_ t u hu
def Sub:Env->Env->Prop
 | [],_=>True
 | (t,v)::L',L=>look L t=some v/\Sub L' L
theorem Sub.look{L:Env}:∀{L':Env},Sub L' L->∀t v,look L' t=some v->Pal.look L t=some v
 | [],_,t,v,e=>by simp[Pal.look] at e
 | (u,w)::L',h,t,v,e=>by
  simp only[Pal.look] at e
  split at e;rename_i K;subst K;cases e;exact h.1;exact Sub.look h.2 t v e
theorem Has.sub{n:Nat}{L L':Env}(h:Has n L T)(s:Sub L' L):Has n L' T:=⟨h.size,λt v e=>h.at_ t v (s.look t v e)⟩
variable {P:Program}
section
variable (J:Judge P)(Q:Gs_)
def JL(b:Frame)(n:Nat)(L:Env)(ds:Ld_)(todo:Li_)(cs:Lf_)(s:St):Prop:=
 ∀T,Has n L T->J.ok Q (G (fr b T ds todo) cs) s
end
variable {J:Judge P}{Q:Gs_}{L L':Env}{ds:Ld_}{k:Li_}{cs:Lf_}{s s':St}
variable{l:Nat}
section
variable {b:Frame}{n:Nat}
theorem Judge.Eh{g g':Goroutine}(K:g.status=.running)(h:∀w,stepG P J.main g w=.go g' w)(k:J.ok Q g' s):J.ok Q g s:=
 J.step ⟨K,λw f=>⟨g',s,w,#[],h w,k,f,.refl _ _,by simp⟩,λe=>⟨g',h,e▸k⟩⟩
theorem DR(h:Sub L' L)(k':JL J Q b n L' ds k cs s):JL J Q b n L ds k cs s:=λT K=>k' T (K.sub h)
theorem JL.ghost(h:CK s s')(k':JL J Q b n L ds k cs s'):JL J Q b n L ds k cs s:=λT K=>J.ghost h (k' T K)
theorem JL.skip(h:JL J Q b n L ds k cs s):JL J Q b n L ds (.code .skip::k) cs s:=λT K=>Judge.Eh V (λw=>by simp[G,stepG,stepG.exec,fr]) (h T K)
theorem JL.label(h:JL J Q b n L ds k cs s):JL J Q b n L ds (.code (.label l)::k) cs s:=λT K=>Judge.Eh V (λw=>by simp[G,stepG,stepG.exec,fr]) (h T K)
theorem Of{i:Nat}(h:JL J Q b n L ds k cs s):JL J Q b n L ds (.inBlock i::k) cs s:=λT K=>Judge.Eh V (λw=>by simp[G,stepG,stepG.exec,fr]) (h T K)
theorem X7{c:Code}(h:JL J Q b n L ds k cs s):JL J Q b n L ds (.inScope c::k) cs s:=λT K=>Judge.Eh V (λw=>by simp[G,stepG,stepG.exec,fr]) (h T K)
theorem JL.seq{x y:Code}(h:JL J Q b n L ds (.code x:: .code y::k) cs s):JL J Q b n L ds (.code (.seq x y)::k) cs s:=λT K=>Judge.Eh V (λw=>by simp[G,stepG,stepG.exec,fr]) (h T K)
theorem JL.block{i:Nat}{c:Code}(h:JL J Q b n L ds (.code c:: .inBlock i::k) cs s):JL J Q b n L ds (.code (.block i c)::k) cs s:=λT K=>Judge.Eh V (λw=>by simp[G,stepG,stepG.exec,fr]) (h T K)
theorem JL.scope{c:Code}(h:JL J Q b n L ds (.code c:: .inScope c::k) cs s):JL J Q b n L ds (.code (.scope c)::k) cs s:=λT K=>Judge.Eh V (λw=>by simp[G,stepG,stepG.exec,fr]) (h T K)
theorem IV{c:Code}(h:JL J Q b n L ds (.code c:: .inLoop c::k) cs s):JL J Q b n L ds (.code (.loop c)::k) cs s:=λT K=>Judge.Eh V (λw=>by simp[G,stepG,stepG.exec,fr]) (h T K)
theorem JL.again{c:Code}(h:JL J Q b n L ds (.code c:: .inLoop c::k) cs s):JL J Q b n L ds (.inLoop c::k) cs s:=λT K=>Judge.Eh V (λw=>by simp[G,stepG,stepG.exec,fr]) (h T K)
theorem JL.exit{i:Nat}{k':Li_}(K:exitTo i k=some k')(h:JL J Q b n L ds k' cs s):JL J Q b n L ds (.code (.exit i)::k) cs s:=λT O=>Judge.Eh V (λw=>by simp[G,stepG,stepG.exec,fr,K]) (h T O)
theorem UT(T:Av_)(todo:Li_)(x:Operand):(fr b T ds todo).eval x=BM T x:=by cases x<;>rfl
theorem Uk(T:Av_)(todo:Li_):(fr b T ds todo).eval=BM T:=funext (UT T todo)
theorem JL.cond{c:Operand}{x y:Code}{t:Bool}(U:ev L c=some (.bool t))(h:JL J Q b n L ds (.code (if t then x else y)::k) cs s):JL J Q b n L ds (.code (.cond c x y)::k) cs s:=λT O=>
 Judge.Eh V (λw=>by
  have K:=UT (b:=b) (ds:=ds) T (.code (.cond c x y)::k) c
  rw[O.ev U] at K
  simp only[fr] at K
  simp[G,stepG,stepG.exec,fr,K]) (h T O)
theorem Y3{c:Operand}{x y:Code}(K:ev L c=some (.bool true))(h:JL J Q b n L ds (.code x::k) cs s):JL J Q b n L ds (.code (.cond c x y)::k) cs s:=JL.cond K h
theorem YV{c:Operand}{x y:Code}(K:ev L c=some (.bool false))(h:JL J Q b n L ds (.code y::k) cs s):JL J Q b n L ds (.code (.cond c x y)::k) cs s:=JL.cond K h
theorem Ri{c:Operand}{x y:Code}{t:Bool}(K:ev L c=some (.bool t))(O:t=true->JL J Q b n L ds (.code x::k) cs s)(U:t=false->JL J Q b n L ds (.code y::k) cs s):JL J Q b n L ds (.code (.cond c x y)::k) cs s:=by
 cases t;exact JL.cond K (U V);exact JL.cond K (O V)
theorem GY{c:Operand}{x y:Code}{p:Prop} [Decidable p] (K:ev L c=some (.bool (decide p)))(O:p->JL J Q b n L ds (.code x::k) cs s)(U:¬p->JL J Q b n L ds (.code y::k) cs s):JL J Q b n L ds (.code (.cond c x y)::k) cs s:=
 Ri K (λh=>O (sX h)) (λh=>U (sN h))
theorem JL.loop{c:Code}(I:α->Prop)(O:α->Nat)(U:α->Env)(Y:α->St)(Z:α)(ac:I Z)(ag:L=U Z)(ai:s=Y Z)
  (round:∀a,I a->(∀K,I K->O K<O a->JL J Q b n (U K) ds (.inLoop c::k) cs (Y K))->JL J Q b n (U a) ds (.code c:: .inLoop c::k) cs (Y a)):
  JL J Q b n L ds (.code (.loop c)::k) cs s:=by
 refine IV ?_;subst ag ai;have key:∀m a,O a=m->I a->JL J Q b n (U a) ds (.code c:: .inLoop c::k) cs (Y a):=by
  intro m
  induction m using Nat.strongRecOn with
  | _ m aj=>intro a hm al;exact round a al λK am ap=>JL.again (aj (O K) (hm▸ap) K rfl am)
 exact key _ Z V ac
theorem JL.region{id:Nat}{ops:Ao_}(h:JL J Q b n L ds (.inRegion ops (List.range ops.size)::k) cs s):JL J Q b n L ds (.code (.region id ops false)::k) cs s:=λT K=>Judge.Eh V (λw=>by simp[G,stepG,stepG.exec,fr]) (h T K)
theorem JL.done{ops:Ao_}(h:JL J Q b n L ds k cs s):JL J Q b n L ds (.inRegion ops []::k) cs s:=λT K=>Judge.Eh V (λw=>by simp[G,stepG,stepG.exec,fr]) (h T K)
theorem UW{id:Nat}{ops:Ao_}(K:s.q=false)(hm:P.follows .mixedOrders=true)(h:∀t,JL J Q b n L ds (.inRegion ops (Region.linearise .any ops t)::k) cs s):JL J Q b n L ds (.code (.region id ops true)::k) cs s:=λT O=>by
 refine J.step ⟨rfl,λw f=>⟨_,s,{w with drawn:=w.drawn+1},#[],?_,h (w.tape w.drawn (.order b.fn id)) T O,⟨f.e,f.h,f.d⟩,⟨qH _,λ_ _ _=>rfl,λ_ h=>.inl h,λ_ _ h=>h,λ_ h=>.inl h,rfl,rfl,rfl⟩,by simp⟩,λe=>by subst e;cases K⟩
 simp[G,stepG,stepG.exec,fr,choose,Sem.run,Question.forced,Question.cut,Region.schedule,hm]
theorem He(T:Av_)(ops:Ao_)(i:Nat)(rest:List Nat)(v:Value)(o:Oper)(K:ops[i]?=some o):
  (fr b T ds (.inRegion ops (i::rest)::k)).finish v=fr b (Dl T o.dst v) ds (.inRegion ops rest::k):=by
 cases hd:o.dst<;>simp[Frame.finish,fr,K,hd,Dl]
theorem stepG_op{main:Bool}{ops:Ao_}{i:Nat}{rest:List Nat}{o:Oper}(K:ops[i]?=some o)(hw:Region.wanted o (yielded ops T)=true):
  stepG P main (G (fr b T ds (.inRegion ops (i::rest)::k)) cs) w=
   match b.roundOf,o.op with
   | some l,.defer c=>stepG.apply P true (fr b T ds (.inRegion ops (i::rest)::k)) cs none (do Instr.deferInRound l (← resolve (BM T) c o.type);pure .skip) w
   | _,_=>stepG.apply P true (fr b T ds (.inRegion ops (i::rest)::k)) cs none (execOp (BM T) o) w:=by
 have he:=Uk (b:=b) (ds:=ds) T (.inRegion ops (i::rest)::k);simp only[fr] at he;simp only[G,stepG,stepG.exec,fr,K,rZ,Option.getD_some,hw,rH,stepG.oper,Frame.oper?,he]
 rfl
theorem GO(T:Av_)(todo:Li_):(fr b T ds todo).fn=b.fn:=rfl
theorem IZ(T:Av_)(todo:Li_):(fr b T ds todo).todo=todo:=rfl
def upon(J:Judge P)(Q:Gs_)(b:Frame)(T:Av_)(ds:Ld_)(ops:Ao_)(i:Nat)(rest:List Nat)(k:Li_)(cs:Lf_)(dst:Option Tmp):Next->St->Prop
 | .value v,s=>J.ok Q (G (fr b (Dl T dst v) ds (.inRegion ops rest::k)) cs) s
 | .skip,s=>J.ok Q (G (fr b (Dl T dst undef) ds (.inRegion ops rest::k)) cs) s
 | .defer d,s=>J.ok Q (G (fr b (Dl T dst undef) (d::ds) (.inRegion ops rest::k)) cs) s
 | .enter f args,s=>J.ok Q (G (Frame.enter P f args .normal) (fr b T ds (.inRegion ops (i::rest)::k)::cs)) s
 | .round l f tmps assign body,s=>J.ok Q (G (Frame.round l f tmps assign body .normal) (fr b T ds (.inRegion ops (i::rest)::k)::cs)) s
 | _,_=>False
def MB(J:Judge P)(Q:Gs_)(b:Frame)(T:Av_)(ds:Ld_)(ops:Ao_)(i:Nat)(rest:List Nat)(k:Li_)(cs:Lf_):Halt->St->Prop
 | .panic v,s=>J.ok Q (G ((fr b T ds (.inRegion ops (i::rest)::k)).raise [{v,recovered:=false}]) cs) s
 | _,_=>False
theorem Rw{s:St}{fn:FuncId}(h:∀e∈es,Ev s w w' e):∀e∈seen P fn es,Ev s w w' e:=λe he=>h e (mem_seen he)
theorem Judge.oper{ops:Ao_}{i:Nat}{rest:List Nat}{o:Oper}(ai:ops[i]?=some o)(hw:Region.wanted o (yielded ops T)=true)(aw:b.kind≠ .early)
  (hd:b.roundOf=none∨∀c,o.op≠ .defer c)
  (h:lp P (execOp (BM T) o) s (upon J Q b T ds ops i rest k cs o.dst) (MB J Q b T ds ops i rest k cs)):
  J.ok Q (G (fr b T ds (.inRegion ops (i::rest)::k)) cs) s:=by
 have U:((fr b T ds (.inRegion ops (i::rest)::k)).kind==CallKind.early)=false:=by simpa [fr] using aw
 have ap:∀w,stepG P J.main (G (fr b T ds (.inRegion ops (i::rest)::k)) cs) w=stepG.apply P true (fr b T ds (.inRegion ops (i::rest)::k)) cs none (execOp (BM T) o) w:=by
  intro w;rw[stepG_op ai hw];split;rename_i l c aq e2;rcases hd with hd | hd;rw[hd] at aq;cases aq;exact absurd e2 (hd c);rfl
 refine J.step ⟨V,λw f=>?_,λe=>?_⟩
 rotate_left
 .subst e;simp only[ap];have aj:=λv=>He (b:=b) (ds:=ds) (k:=k) T ops i rest v o ai;let⟨es,he,Y,h⟩:=UI _ h;have ag:seen P b.fn es=#[]:=S6 Y;rcases h with⟨al,K,O⟩ | ⟨x,K,O⟩
  .cases al with
   | value v=>exact⟨_,λw=>by simp[stepG.apply,O,U,GStep.after,G,aj,GO,he,ag],K⟩
   | skip=>exact⟨_,λw=>by simp[stepG.apply,O,U,GStep.after,G,aj,GO,he,ag],K⟩
   | enter g args=>exact⟨_,λw=>by simp[stepG.apply,O,U,GStep.after,G,GO,IZ,he,ag],K⟩
   | round l g tm as a0=>exact⟨_,λw=>by simp[stepG.apply,O,U,GStep.after,G,GO,IZ,he,ag],K⟩
   | defer d=>
    have am:=He (b:=b) (ds:=d::ds) (k:=k) T ops i rest undef o ai;exact⟨_,λw=>by rw[← am];simp[stepG.apply,O,U,GStep.after,G,GO,IZ,he,ag];rfl,K⟩
   | _=>exact K.elim
  .cases x with
   | panic v=>exact⟨_,λw=>by simp[stepG.apply,O,U,GStep.after,G,GO,IZ,he,ag],K⟩
   | _=>exact K.elim
 let⟨s',Z,ac,a1,K⟩:=Ot _ h f;rw[ap];have Y:=Rw (P:=P) (fn:=b.fn) a1;have aj:=λv=>He (b:=b) (ds:=ds) (k:=k) T ops i rest v o ai;cases O:(execOp (BM T) o).run P w with
 | ok al w'=>
  rw[O] at Z ac K Y;simp only[LC] at Z ac Y;cases al with
  | value v=>exact⟨_,s',w',seen P b.fn ((execOp (BM T) o).events P w #[])++ #[],by simp[stepG.apply,O,U,GStep.after,G,aj,GO],K,Z,ac,by simpa using Y⟩
  | skip=>exact⟨_,s',w',seen P b.fn ((execOp (BM T) o).events P w #[])++ #[],by simp[stepG.apply,O,U,GStep.after,G,aj,GO],K,Z,ac,by simpa using Y⟩
  | enter g args=>exact⟨_,s',w',seen P b.fn ((execOp (BM T) o).events P w #[])++ #[],by simp[stepG.apply,O,U,GStep.after,G,GO,IZ],K,Z,ac,by simpa using Y⟩
  | round l g tm as a0=>exact⟨_,s',w',seen P b.fn ((execOp (BM T) o).events P w #[])++ #[],by simp[stepG.apply,O,U,GStep.after,G,GO,IZ],K,Z,ac,by simpa using Y⟩
  | defer d=>
   have am:=He (b:=b) (ds:=d::ds) (k:=k) T ops i rest undef o ai;exact⟨_,s',w',seen P b.fn ((execOp (BM T) o).events P w #[])++ #[],by
    rw[← am];simp[stepG.apply,O,U,GStep.after,G,GO,IZ];rfl,K,Z,ac,by simpa using Y⟩
  | _=>exact K.elim
 | halt x w'=>
  rw[O] at Z ac K Y;simp only[LC] at Z ac Y;cases x with
  | panic v=>exact⟨_,s',w',seen P b.fn ((execOp (BM T) o).events P w #[])++ #[],by simp[stepG.apply,O,U,GStep.after,G,GO,IZ],K,Z,ac,by simpa using Y⟩
  | _=>exact K.elim
theorem Judge.unwanted{ops:Ao_}{i:Nat}{rest:List Nat}{o:Oper}(K:ops[i]?=some o)(hw:Region.wanted o (yielded ops T)=false)
  (h:J.ok Q (G (fr b (Dl T o.dst undef) ds (.inRegion ops rest::k)) cs) s):J.ok Q (G (fr b T ds (.inRegion ops (i::rest)::k)) cs) s:=by
 refine Judge.Eh V (λw=>?_) h;have O:=He (b:=b) (ds:=ds) (k:=k) T ops i rest undef o K;rw[← O];simp[G,stepG,stepG.exec,fr,K,hw]
end
def Yl(P:Program)(o:Oper)(ρ:Operand->Value)(s:St)(v:Value):Prop:=lp P (execOp ρ o) s (λK s'=>K=.value v/\s'=s) (λ_ _=>False)
def Fz(L:Env)(ρ:Operand->Value):Prop:=∀x v,ev L x=some v->ρ x=v
def A3(L:Env)(ops:Ao_)(o:Oper):Option Bool:=
 match o.guard with
 | none=>some true
 | some (j,K)=>match(ops[j]?).bind (·.dst) with
  | some d=>match look L d with
   | some (.bool b)=>some (b==K)
   | some (.tuple _)=>some false
   | _=>none
  | none=>none
section
variable {b:Frame}{n:Nat}
theorem Has.GL(h:Has n L T):Fz L (BM T):=λ_ _ e=>h.ev e
theorem getD_some{d:Nat}{c:Bool}(h:T.getD d undef=.bool c):T[d]?=some (.bool c):=by
 rw[f5] at h;cases K:T[d]? with
 | none=>rw[K] at h;simp[undef] at h
 | some v=>rw[K] at h;simp at h;rw[h]
theorem Cr{ops:Ao_}{o:Oper}{c:Bool}(h:Has n L T)(hw:A3 L ops o=some c):Region.wanted o (yielded ops T)=c:=by
 unfold A3 at hw;unfold Region.wanted;cases K:o.guard with
 | none=>rw[K] at hw;simpa using hw
 | some p=>
  obtain⟨j,Y⟩:=p;rw[K] at hw;simp only at hw ⊢;cases hd:(ops[j]?).bind (·.dst) with
  | none=>rw[hd] at hw;simp at hw
  | some d=>
   rw[hd] at hw;simp only at hw;cases O:look L d with
   | none=>rw[O] at hw;simp at hw
   | some v=>
    rw[O] at hw;cases v with
    | bool x=>
     simp only[ry] at hw;have:=getD_some (h.at_ d _ O);simp only[yielded,hd,Option.bind_some,this];simp[← hw]
    | tuple c=>
     simp only[ry] at hw;have K:=h.at_ d _ O;simp only[yielded,hd,Option.bind_some];cases U:T[d]? with
     | none=>simp[← hw]
     | some u=>
      have:u=.tuple c:=by rw[f5,U] at K;exact K
      subst this;simp[← hw]
    | _=>simp at hw
def EJ:Op->Bool | .defer _=>true | _=>false
def BV(b:Frame)(n:Nat)(o:Oper):Bool:=(b.kind != .early)&&(BA n o.dst&& !EJ o.op)
theorem Yl.out{P:Program}{o:Oper}{ρ:Operand->Value}{s:St}{v:Value}(h:Yl P o ρ s v):Pal.lp P (execOp ρ o) s (λK s'=>K=.value v/\s'=s) (λ_ _=>False):=by unfold Yl at h;exact h
theorem Bp{ops:Ao_}{i:Nat}{rest:List Nat}{o:Oper}{v:Value}(U:ops[i]?=some o)(hw:A3 L ops o=some true)(K:BV b n o=true)
  (h:∀ρ,Fz L ρ->Yl P o ρ s v) (Y:JL J Q b n (AE L o.dst v) ds (.inRegion ops rest::k) cs s):
  JL J Q b n L ds (.inRegion ops (i::rest)::k) cs s:=λT O=>by
 simp only[BV,eM] at K
 obtain⟨K,Z,hd⟩:=K
 refine Judge.oper U (Cr O hw) (by simpa using K) (.inr λc ac=>by rw[ac] at hd;simp[EJ] at hd) (EP _ (h _ O.GL).out ?_ ?_)
 .rintro ai s' ⟨rfl,rfl⟩
  exact Y _ (O.put Z v)
 .intro _ _ ag;exact ag.elim
theorem I6{ops:Ao_}{i:Nat}{rest:List Nat}{o:Oper}(O:ops[i]?=some o)(hw:A3 L ops o=some false)(U:BA n o.dst=true)
  (Y:JL J Q b n (AE L o.dst undef) ds (.inRegion ops rest::k) cs s):
  JL J Q b n L ds (.inRegion ops (i::rest)::k) cs s:=λ_ K=>
 Judge.unwanted O (Cr K hw) (Y _ (K.put U undef))
theorem JL.op{ops:Ao_}{i:Nat}{rest:List Nat}{o:Oper}(ac:ops[i]?=some o)(hw:A3 L ops o=some true)(K:BV b n o=true)
  (h:∀ρ,Fz L ρ->lp P (execOp ρ o) s (λU s'=>match U with
   | .value v=>JL J Q b n (AE L o.dst v) ds (.inRegion ops rest::k) cs s'
   | .skip=>JL J Q b n (AE L o.dst undef) ds (.inRegion ops rest::k) cs s'
   | _=>False) (λ_ _=>False)):
  JL J Q b n L ds (.inRegion ops (i::rest)::k) cs s:=λT O=>by
 simp only[BV,eM] at K
 obtain⟨K,Z,hd⟩:=K
 refine Judge.oper ac (Cr O hw) (by simpa using K) (.inr λc ag=>by rw[ag] at hd;simp[EJ] at hd) (EP _ (h _ O.GL) ?_ ?_)
 .intro U s' Y
  cases U with
  | value v=>exact Y _ (O.put Z v)
  | skip=>exact Y _ (O.put Z undef)
  | _=>exact Y.elim
 .intro _ _ ai;exact ai.elim
end
variable {ρ:Operand->Value}{y z:Operand}{d:Option Tmp}{t u ty:TypeId}{p:String}{af:Ae_}{g:On_}{kd kd':IntKind}{m':Int}
variable{ats:Array TypeId}
section
variable {x:Operand}{v:Value}{m:Int}
theorem Yl.move(K:ρ x=v):Yl P ⟨d,.move x,ty,p,af,g⟩ ρ s v:=by simp[Yl,execOp,lp,pure,K]
theorem Yl.assign(K:ρ x=v):Yl P ⟨d,.assign x,ty,p,af,g⟩ ρ s v:=by simp[Yl,execOp,lp,pure,K]
theorem M1(K:ρ z=.bool true)(O:ρ x=v):Yl P ⟨d,.pick z x y,ty,p,af,g⟩ ρ s v:=by simp[Yl,execOp,lp,pure,bind,Sem.bind,asBool,K,O]
theorem YL(K:ρ z=.bool false)(O:ρ y=v):Yl P ⟨d,.pick z x y,ty,p,af,g⟩ ρ s v:=by simp[Yl,execOp,lp,pure,bind,Sem.bind,asBool,K,O]
theorem Yl.lss(K:ρ x=.int kd m)(O:ρ y=.int kd m'):Yl P ⟨d,.binOp .lss t x y u,ty,p,af,g⟩ ρ s (.bool (decide (m<m'))):=by
 simp[Yl,execOp,lp,pure,bind,Sem.bind,K,O,eqGuard,Go.binOp,Op.intCmp]
theorem Yl.leq(K:ρ x=.int kd m)(O:ρ y=.int kd m'):Yl P ⟨d,.binOp .leq t x y u,ty,p,af,g⟩ ρ s (.bool (decide (m<=m'))):=by
 simp[Yl,execOp,lp,pure,bind,Sem.bind,K,O,eqGuard,Go.binOp,Op.intCmp]
theorem Yl.gtr(K:ρ x=.int kd m)(O:ρ y=.int kd m'):Yl P ⟨d,.binOp .gtr t x y u,ty,p,af,g⟩ ρ s (.bool (decide (m'<m))):=by
 simp[Yl,execOp,lp,pure,bind,Sem.bind,K,O,eqGuard,Go.binOp,Op.intCmp]
theorem Yl.geq(K:ρ x=.int kd m)(O:ρ y=.int kd m'):Yl P ⟨d,.binOp .geq t x y u,ty,p,af,g⟩ ρ s (.bool (decide (m'<=m))):=by
 simp[Yl,execOp,lp,pure,bind,Sem.bind,K,O,eqGuard,Go.binOp,Op.intCmp]
theorem Yl.eql(K:ρ x=.int kd m)(O:ρ y=.int kd m'):Yl P ⟨d,.binOp .eql t x y u,ty,p,af,g⟩ ρ s (.bool (decide (m=m'))):=by
 simp[Yl,execOp,lp,pure,bind,Sem.bind,K,O,eqGuard,Go.binOp,Op.intCmp];rfl
theorem Yl.neq(K:ρ x=.int kd m)(O:ρ y=.int kd m'):Yl P ⟨d,.binOp .neq t x y u,ty,p,af,g⟩ ρ s (.bool (!decide (m=m'))):=by
 simp[Yl,execOp,lp,pure,bind,Sem.bind,K,O,eqGuard,Go.binOp,Op.intCmp];rfl
theorem Yl.add(K:ρ x=.int kd m)(O:ρ y=.int kd m'):Yl P ⟨d,.binOp .add t x y u,ty,p,af,g⟩ ρ s (.int kd (kd.wrap (m+m'))):=by
 simp[Yl,execOp,lp,pure,bind,Sem.bind,K,O,eqGuard,Go.binOp,Op.intArith]
theorem Yl.sub(K:ρ x=.int kd m)(O:ρ y=.int kd m'):Yl P ⟨d,.binOp .sub t x y u,ty,p,af,g⟩ ρ s (.int kd (kd.wrap (m - m'))):=by
 simp[Yl,execOp,lp,pure,bind,Sem.bind,K,O,eqGuard,Go.binOp,Op.intArith]
theorem Yl.mul(K:ρ x=.int kd m)(O:ρ y=.int kd m'):Yl P ⟨d,.binOp .mul t x y u,ty,p,af,g⟩ ρ s (.int kd (kd.wrap (m*m'))):=by
 simp[Yl,execOp,lp,pure,bind,Sem.bind,K,O,eqGuard,Go.binOp,Op.intArith]
theorem Kz{a:Int}(h: -9223372036854775808<=a/\a<=9223372036854775807):IntKind.i64.wrap a=a:=by
 simp only[IntKind.wrap,IntKind.bits,IntKind.signed];simp;split<;>omega
theorem cb(K:ρ x=.int .i64 m)(O:ρ y=.int .i64 m')(hb: -9223372036854775808<=m+m'/\m+m'<=9223372036854775807):Yl P ⟨d,.binOp .add t x y u,ty,p,af,g⟩ ρ s (.int .i64 (m+m')):=by
 have:=Yl.add (P:=P) (s:=s) (d:=d) (t:=t) (u:=u) (ty:=ty) (p:=p) (af:=af) (g:=g) K O;rwa[Kz hb] at this
theorem dv(K:ρ x=.int .i64 m)(O:ρ y=.int .i64 m')(hb: -9223372036854775808<=m - m'/\m - m'<=9223372036854775807):Yl P ⟨d,.binOp .sub t x y u,ty,p,af,g⟩ ρ s (.int .i64 (m - m')):=by
 have:=Yl.sub (P:=P) (s:=s) (d:=d) (t:=t) (u:=u) (ty:=ty) (p:=p) (af:=af) (g:=g) K O;rwa[Kz hb] at this
theorem bR(K:ρ x=.int .i64 m)(O:ρ y=.int .i64 m')(hb: -9223372036854775808<=m*m'/\m*m'<=9223372036854775807):Yl P ⟨d,.binOp .mul t x y u,ty,p,af,g⟩ ρ s (.int .i64 (m*m')):=by
 have:=Yl.mul (P:=P) (s:=s) (d:=d) (t:=t) (u:=u) (ty:=ty) (p:=p) (af:=af) (g:=g) K O;rwa[Kz hb] at this
theorem Yl.rem(K:ρ x=.int kd m)(O:ρ y=.int kd m')(U:m'≠0):Yl P ⟨d,.binOp .rem t x y u,ty,p,af,g⟩ ρ s (.int kd (m.tmod m')):=by
 simp[Yl,execOp,lp,pure,bind,Sem.bind,K,O,eqGuard,Go.binOp,Op.intDiv,U]
theorem Yl.quo(K:ρ x=.int kd m)(O:ρ y=.int kd m')(U:m'≠0):Yl P ⟨d,.binOp .quo t x y u,ty,p,af,g⟩ ρ s (.int kd (kd.wrap (m.tdiv m'))):=by
 simp[Yl,execOp,lp,pure,bind,Sem.bind,K,O,eqGuard,Go.binOp,Op.intDiv,U]
theorem Yl.and(K:ρ x=.int kd m)(O:ρ y=.int kd m'):Yl P ⟨d,.binOp .and t x y u,ty,p,af,g⟩ ρ s (.int kd (kd.wrap (BitVec.ofInt kd.bits m&&& BitVec.ofInt kd.bits m').toNat)):=by
 simp[Yl,execOp,lp,pure,bind,Sem.bind,K,O,eqGuard,Go.binOp,Op.intBits]
theorem Yl.or(K:ρ x=.int kd m)(O:ρ y=.int kd m'):Yl P ⟨d,.binOp .or t x y u,ty,p,af,g⟩ ρ s (.int kd (kd.wrap (BitVec.ofInt kd.bits m|||BitVec.ofInt kd.bits m').toNat)):=by
 simp[Yl,execOp,lp,pure,bind,Sem.bind,K,O,eqGuard,Go.binOp,Op.intBits]
theorem Yl.xor(K:ρ x=.int kd m)(O:ρ y=.int kd m'):Yl P ⟨d,.binOp .xor t x y u,ty,p,af,g⟩ ρ s (.int kd (kd.wrap (BitVec.ofInt kd.bits m ^^^ BitVec.ofInt kd.bits m').toNat)):=by
 simp[Yl,execOp,lp,pure,bind,Sem.bind,K,O,eqGuard,Go.binOp,Op.intBits]
theorem Yl.shl(K:ρ x=.int kd m)(O:ρ y=.int kd' m')(U:0<=m'):Yl P ⟨d,.binOp .shl t x y u,ty,p,af,g⟩ ρ s (.int kd (kd.wrap (m*2^(min m'.toNat kd.bits)))):=by
 have:¬m'<0:=by omega
 simp[Yl,execOp,lp,pure,bind,Sem.bind,K,O,eqGuard,Go.binOp,Op.shift,this]
theorem Yl.shr(K:ρ x=.int kd m)(O:ρ y=.int kd' m')(U:0<=m'):Yl P ⟨d,.binOp .shr t x y u,ty,p,af,g⟩ ρ s (.int kd (m.fdiv (2^(min m'.toNat kd.bits)))):=by
 have:¬m'<0:=by omega
 simp[Yl,execOp,lp,pure,bind,Sem.bind,K,O,eqGuard,Go.binOp,Op.shift,this]
theorem Yl.not{c:Bool}(K:ρ x=.bool c):Yl P ⟨d,.unOp .not t x,ty,p,af,g⟩ ρ s (.bool (!c)):=by
 simp[Yl,execOp,lp,pure,bind,Sem.bind,K,Op.unary]
theorem bL(K:ρ x=.int .i64 m)(hb: -9223372036854775808<= -m/\ -m<=9223372036854775807):Yl P ⟨d,.unOp .neg t x,ty,p,af,g⟩ ρ s (.int .i64 (-m)):=by
 simp[Yl,execOp,lp,pure,bind,Sem.bind,K,Op.unary,Op.intArith,Kz hb]
theorem F6(K:P.underlying t=some (.int kd'))(hu:P.underlying u=some (.int kd))(O:ρ x=.int kd' m):Yl P ⟨d,.convert t u x,ty,p,af,g⟩ ρ s (.int kd (kd.wrap m)):=by
 simp[Yl,execOp,lp,pure,bind,Sem.bind,O,Go.convert,underlying,program,K,hu,Conv.intToInt]
theorem Yl.extract{vs:Av_}{i:Nat}(K:ρ x=.tuple vs)(hi:vs[i]?=some v):Yl P ⟨d,.extract x i,ty,p,af,g⟩ ρ s v:=by
 simp[Yl,execOp,lp,pure,bind,Sem.bind,K,Instr.extract,hi]
theorem Yl.nilCheck{a:Addr}(K:ρ x=.pointer (some a)):Yl P ⟨d,.nilCheck x,ty,p,af,g⟩ ρ s (.pointer (some a)):=by
 simp[Yl,execOp,lp,pure,K]
theorem Yl.len{a:Option Addr}{e:TypeId}{c:Nat}(K:ats[0]?=some t)(O:P.underlying t=some (.slice e))(U:ρ x=.slice a l c):
  Yl P ⟨d,.call ⟨.builtin .len,#[x],ats⟩,ty,p,af,g⟩ ρ s (.int .i64 l):=by
 simp[Yl,execOp,lp,pure,bind,Sem.bind,U,resolve,invoke,builtin,Builtin.len_,K,underlying,program,O,goInt]
theorem J1{dsc:TypeDesc}(K:P.underlying t=some dsc)(O:∀ms,dsc≠ .interface ms)(U:ρ x=v):Yl P ⟨d,.makeInterface t x,ty,p,af,g⟩ ρ s (.iface t v):=by
 have:lp P (Instr.makeInterface t v) s (λr s'=>r=.iface t v/\s'=s) (λ_ _=>False):=by
  unfold Instr.makeInterface;simp only[lp,bind,Sem.bind,underlying,program,K];cases dsc<;>first | exact⟨rfl,rfl⟩ | exact absurd rfl (O _)
 simp only[Yl,execOp,U];exact AA _ _ (EP _ this (λr s' ⟨Y,Z⟩=>⟨by rw[Y],Z⟩) (λ_ _ h=>h))
theorem L3{fn:Fn}{a c:Array Operand}{va K:Av_}(O:a.map ρ=va)(U:c.map ρ=K):Yl P ⟨d,.makeFunc fn a c,ty,p,af,g⟩ ρ s (.func fn va K):=by
 simp[Yl,execOp,lp,pure,bind,Sem.bind,Instr.makeFunc,O,U]
end
attribute [irreducible] Yl
def Le(E E':LH):Prop:=∀b o,E b=some o->E' b=some o
theorem Le.refl(E:LH):Le E E:=λ_ _ h=>h
theorem Le.trans{E E' E0:LH}(h:Le E E')(k:Le E' E0):Le E E0:=λb o x=>k b o (h b o x)
theorem AL{E:LH}:Le E E:=Le.refl E
theorem Le.Ad{a b c:LH}(h:Le a b)(k:Le b c):Le a c:=h.trans k
def By:List (Nat×Obj)->LH->LH
 | [],H=>H
 | (b,o)::B,H=>λx=>if x=b then some o else By B H x
def mk(E H:LH)(B:List (Nat×Obj)):St:=⟨E,By B H,false⟩
def Nd(E H:LH):List (Nat×Obj)->Prop
 | []=>True
 | (b,_)::B=>E b=none/\H b=none/\(∀p∈B,p.1≠b)/\Nd E H B
theorem Ts{H:LH}{b:Nat}:∀{B:List (Nat×Obj)},H b=none->(∀p∈B,p.1≠b)->By B H b=none
 | [],h,_=>h
 | (c,o)::B,h,hb=>by
  have K:b≠c:=λe=>hb (c,o) (by simp) e.symm
  simp only[By,d7 K]
  exact Ts h λp O=>hb p (f9 _ O)
theorem Ii{H:LH}{b:Nat}:∀{B:List (Nat×Obj)},By B H b=none->H b=none/\∀p∈B,p.1≠b
 | [],h=>⟨h,by simp⟩
 | (c,o)::B,h=>by
  simp only[By] at h
  split at h;cases h;rename_i O;let⟨U,Y⟩:=Ii h;refine⟨U,λp K=>?_⟩;rcases fP.1 K with rfl | K;exact λe=>O e.symm;exact Y p K
theorem S4{H:LH}{x:Nat}{o:Obj}{r:Nat}:∀{B:List (Nat×Obj)},(∀p∈B,p.1≠r)->By (B++ [(r,o)]) H x=if x=r then some o else By B H x
 | [],_=>rfl
 | (c,u)::B,h=>by
  simp only[rh,By]
  by_cases e:x=c
  .subst e
   have:x≠r:=λe=>h (x,u) (by simp) e;simp[this]
  .simp only [d7 e];exact S4 λp K=>h p (f9 _ K)
theorem Nd.append{E H:LH}{r:Nat}{o:Obj}(O:E r=none)(U:H r=none):∀{B:List (Nat×Obj)},(∀p∈B,p.1≠r)->Nd E H B->Nd E H (B++ [(r,o)])
 | [],_,_=>⟨O,U,by simp,trivial⟩
 | (c,u)::B,h,Y=>by
  obtain⟨Z,ac,ag,ai⟩:=Y
  refine⟨Z,ac,λp K=>?_,Nd.append O U (λp K=>h p (f9 _ K)) ai⟩
  rcases ik.1 K with K | K;exact ag p K;simp at K;subst K;exact λe=>h (c,u) (by simp) e.symm
theorem J6{E H:LH}{b:Nat}{o:Obj}:∀{B:List (Nat×Obj)}{i:Nat},Nd E H B->B[i]?=some (b,o)->By B H b=some o
 | [],_,_,h=>by simp at h
 | (c,u)::B,0,_,h=>by simp at h;obtain⟨rfl,rfl⟩:=h;simp[By]
 | (c,u)::B,i+1,K,h=>by
  simp at h
  have O:b≠c:=K.2.2.1 (b,o) (qL h)
  simp only[By,d7 O]
  exact J6 K.2.2.2 h
theorem TY{E H:LH}{b:Nat}{o o':Obj}:∀{B:List (Nat×Obj)}{i:Nat},Nd E H B->B[i]?=some (b,o)->By (B.set i (b,o')) H=λx=>if x=b then some o' else By B H x
 | [],_,_,h=>by simp at h
 | (c,u)::B,0,_,h=>by
  simp at h;obtain⟨rfl,rfl⟩:=h
  funext x
  simp only[sO,By]
  split<;>rfl
 | (c,u)::B,i+1,K,h=>by
  simp at h
  have O:b≠c:=K.2.2.1 (b,o) (qL h)
  funext x
  simp only[tB,By]
  rw[TY K.2.2.2 h]
  by_cases e:x=c;subst e;simp[q2 O];simp[e]
variable{o':Obj}
theorem Nd.set{E H:LH}{b:Nat}:∀{B:List (Nat×Obj)}{i:Nat},Nd E H B->B[i]?=some (b,o)->Nd E H (B.set i (b,o'))
 | [],_,_,h=>by simp at h
 | (c,u)::B,0,K,h=>by simp at h;obtain⟨rfl,rfl⟩:=h;exact K
 | (c,u)::B,i+1,K,h=>by
  simp at h
  refine⟨K.1,K.2.1,λp O=>?_,K.2.2.2.set h⟩
  have hm:=sr O
  rcases hm with hm | rfl;exact K.2.2.1 p hm;exact K.2.2.1 (b,o) (qL h)
theorem Nd.Vl{E H:LH}{b:Nat}{o:Obj}:∀{B:List (Nat×Obj)}{i:Nat},Nd E H B->B[i]?=some (b,o)->E b=none
 | [],_,_,h=>by simp at h
 | (c,u)::B,0,K,h=>by simp at h;obtain⟨rfl,rfl⟩:=h;exact K.1
 | (c,u)::B,i+1,K,h=>by simp at h;exact Nd.Vl K.2.2.2 h
theorem QV{E H:LH}{B:List (Nat×Obj)}{i b:Nat}(K:Nd E H B)(h:B[i]?=some (b,o)):(mk E H B).get b=some o:=by
 unfold St.get mk;simp only[K.Vl h,J6 K h]
theorem Ya{E H:LH}{B:List (Nat×Obj)}{b:Nat}(h:E b=some o):(mk E H B).get b=some o:=by
 unfold St.get mk;simp only[h]
variable{off:Nat}
theorem Uu{E H:LH}{B:List (Nat×Obj)}{i b:Nat}{c:Av_}{e:TypeId}{f:Nat×Nat}{v:Value}(K:Nd E H B)(h:B[i]?=some (b,.cells c e f))(O:c[off]?=some v):(mk E H B).cell? ⟨b,off,none⟩=some v:=by
 unfold St.cell?;rw[QV K h];exact O
theorem YX{E H:LH}{B:List (Nat×Obj)}{b:Nat}{c:Av_}{e:TypeId}{f:Nat×Nat}{v:Value}(h:E b=some (.cells c e f))(K:c[off]?=some v):(mk E H B).cell? ⟨b,off,none⟩=some v:=by
 unfold St.cell?;rw[Ya h];exact K
variable {E H:LH}{B B':List (Nat×Obj)}
variable{bk r:Nat}{args:Av_}{X:Halt->St->Prop}{todo:Li_}{fn:Func}{vs:Lv_}
section
variable {b:Frame}{n:Nat}
theorem KD(O:(mk E H B).E r=none)(U:(mk E H B).H r=none)(o:Obj)(Y:Nd E H B):Nd E H (B++ [(r,o)])/\(mk E H B).upd r o=mk E H (B++ [(r,o)]):=by
 let⟨Z,K⟩:=Ii U;refine⟨Nd.append O Z K Y,?_⟩;unfold St.upd mk;congr 1;funext x;exact(S4 K).symm
theorem eJ{i:Nat}(K:Nd E H B)(h:B[i]?=some (bk,o)):(mk E H B).upd bk o'=mk E H (B.set i (bk,o')):=by
 unfold St.upd mk;congr 1;exact(TY K h).symm
theorem JL.drop(B':List (Nat×Obj))(h:∀p∈B',∃i:Nat,B[i]?=some p)(U:Nd E H B)(k':JL J Q b n L ds k cs (mk E H B')):JL J Q b n L ds k cs (mk E H B):=
 JL.ghost (s':=mk E H B') ⟨λ_ _ h=>h,λx o O=>by
  show By B H x=some o
  have key:∀{B':List (Nat×Obj)},(∀p∈B',∃i:Nat,B[i]?=some p)->By B' H x=some o->By B H x=some o:=by
   intro B'
   induction B' with
   | nil=>
    intro _ O
    have ai:∀p∈B,p.1≠x:=by
     intro p K e
     have:∀{B:List (Nat×Obj)},Nd E H B->p∈B->H p.1=none:=by
      intro B U K
      induction B with
      | nil=>simp at K
      | cons q B Y=>
       rcases fP.1 K with rfl | K;exact U.2.1;exact Y U.2.2.2 K
     have ac:=this U K
     rw[e] at ac
     have ag:H x=some o:=O
     rw[ac] at ag;cases ag
    have:∀{B:List (Nat×Obj)},(∀p∈B,p.1≠x)->By B H x=H x:=by
     intro B Z
     induction B with
     | nil=>rfl
     | cons q B Y=>
      have aj:x≠q.1:=λe=>Z q (by simp) e.symm
      obtain⟨c,u⟩:=q
      simp only[By,d7 aj]
      exact Y λp K=>Z p (f9 _ K)
    rw[this ai];exact O
   | cons q B' Y=>
    intro Z O
    obtain⟨c,u⟩:=q
    simp only[By] at O
    split at O
    .rename_i e;subst e;cases O
     obtain⟨i,hi⟩:=Z (x,o) (by simp)
     exact J6 U hi
    .exact Y (λp K=>Z p (f9 _ K)) O
  exact key h O,λ_ _ h=>.inl h,V⟩ k'
theorem MW{x:Nat}:∀{B:List (Nat×Obj)}{i bk:Nat}{o u:Obj},Nd E H B->B[i]?=some (bk,o)->By (B.eraseIdx i) H x=some u->x≠bk/\By B H x=some u
 | [],_,_,_,_,_,h,_=>by simp at h
 | (c,v)::B,0,bk,o,u,O,h,K=>by
  simp at h;obtain⟨rfl,rfl⟩:=h
  simp only[List.eraseIdx_cons_zero] at K
  have U:x≠c:=by
   intro e;subst e;rw[Ts O.2.1 O.2.2.1] at K;cases K
  exact⟨U,by simp only[By,d7 U];exact K⟩
 | (c,v)::B,i+1,bk,o,u,O,h,K=>by
  simp at h;simp only[List.eraseIdx_cons_succ,By] at K ⊢;split at K;rename_i e;subst e;rw[d0 rfl];exact⟨λe=>O.2.2.1 (bk,o) (qL h) e.symm,K⟩;rename_i e;rw[d7 e];exact MW O.2.2.2 h K
theorem JL.freeze(i:Nat)(K:Nd E H B)(h:B[i]?=some (bk,o))
  (k':∀E',Le E E'->E' bk=some o->Nd E' H (B.eraseIdx i)->JL J Q b n L ds k cs (mk E' H (B.eraseIdx i))):JL J Q b n L ds k cs (mk E H B):=by
 have al:=qL h;have am:E bk=none/\H bk=none:=by
  have:∀{B:List (Nat×Obj)},Nd E H B->(bk,o)∈B->E bk=none/\H bk=none:=by
   intro B K O
   induction B with
   | nil=>simp at O
   | cons q B Y=>
    rcases fP.1 O with rfl | O;exact⟨K.1,K.2.1⟩;exact Y K.2.2.2 O
  exact this K al
 let E':LH:=λx=>if x=bk then some o else E x
 have ag:E' bk=some o:=by simp[E']
 have hle:Le E E':=λx u U=>by
  have:x≠bk:=λe=>by subst e;rw[am.1] at U;cases U
  simp[E',this,U]
 have ap:Nd E' H (B.eraseIdx i):=by
  have:∀{B:List (Nat×Obj)}{i:Nat},Nd E H B->B[i]?=some (bk,o)->Nd E' H (B.eraseIdx i)/\∀p∈B.eraseIdx i,p.1≠bk:=by
   intro B
   induction B with
   | nil=>intro i _ h;simp at h
   | cons q B Y=>
    obtain⟨c,v⟩:=q;intro i K h;have up:∀{B:List (Nat×Obj)},Nd E H B->(∀p∈B,p.1≠bk)->Nd E' H B:=by
     intro B K ai
     induction B with
     | nil=>trivial
     | cons q B aq=>exact⟨by simpa [E',ai q (by simp)] using K.1,K.2.1,K.2.2.1,aq K.2.2.2 λp O=>ai p (f9 _ O)⟩
    cases i with
    | zero=>
     simp at h;obtain⟨rfl,rfl⟩:=h;exact⟨up K.2.2.2 K.2.2.1,K.2.2.1⟩
    | succ i=>
     simp at h;let⟨Z,ac⟩:=Y K.2.2.2 h;have aj:c≠bk:=λe=>K.2.2.1 (bk,o) (qL h) e.symm;refine⟨⟨by simpa [E',aj] using K.1,K.2.1,λp O=>K.2.2.1 p (uh O),Z⟩,λp O=>?_⟩;rcases fP.1 O with rfl | O;exact aj;exact ac p O
  exact(this K h).1
 refine JL.ghost (s':=mk E' H (B.eraseIdx i)) ⟨λx u U=>hle x u U,λx u U=>(MW K h U).2,λx u U=>?_,V⟩ (k' E' hle ag ap);by_cases e:x=bk
 .subst e;right;have:u=o:=by have:E' x=some u:=U;rw[ag] at this;exact(ep this).symm
  subst this;refine⟨J6 K h,?_⟩;cases aw:(mk E' H (B.eraseIdx i)).H x with
  | none=>rfl
  | some y=>exact absurd rfl (MW K h aw).1
 .left;have Z:E' x=some u:=U;have ac:E' x=E x:=by simp[E',e]
  show E x=some u;rw[← ac];exact Z
def Fn(P:Program)(f:FuncId)(args:Av_)(s:St)(R:Value->St->Prop):Prop:=
 ∀(J:Judge P) (Q:Gs_) (c:Frame) (cs:Lf_),(∀v s',R v s'->J.ok Q (G (c.finish v) cs) s')->J.ok Q (G (Frame.enter P f args .normal) (c::cs)) s
def Ez(P:Program)(f:FuncId):Bool:=match P.funcs[f]? with | some fn=> !(fn.name== "runtime.NumGoroutine")&&fn.body.isSome | none=>false
def evs(L:Env):List Operand->Option (Lv_)
 | []=>some []
 | x::xs=>match ev L x,evs L xs with | some v,some vs=>some (v::vs) | _,_=>none
theorem GI{L:Env}{ρ:Operand->Value}(h:Fz L ρ):∀{xs:List Operand}{vs:Lv_},evs L xs=some vs->xs.map ρ=vs
 | [],vs,e=>by simp[evs] at e;subst e;rfl
 | x::xs,vs,e=>by
  simp only[evs] at e
  split at e
  .rename_i v ws K O
   cases e;rw[r8,h x v K,GI h O]
  .cases e
theorem J0{f:FuncId}{s:St}{Q:Next->St->Prop}(K:Ez P f=true)(h:Q (.enter f args) s):lp P (callFunc f args) s Q X:=by
 unfold Ez at K;unfold callFunc;simp only[bind,Sem.bind,program,lp];cases O:P.funcs[f]? with
 | none=>rw[O] at K;cases K
 | some fn=>
  rw[O] at K;simp only[eM,tf] at K;have hb:fn.body.isNone=false:=by cases U:fn.body<;>simp_all
  simp only[K.1,hb,qP,rr];exact h
def BK(P:Program)(f:FuncId)(L:Env)(n:Nat)(s:St)(v:Value):Prop:=∃fn,P.funcs[f]?=some fn/\∀T,Has n L T->lp P (results fn T) s (λu s'=>u=v/\s'=s) (λ_ _=>False)
theorem Judge.leave{c:Frame}{s:St}{v:Value}(Y:b.kind=.normal)(Z:P.funcs[b.fn]?=some fn)(U:lp P (results fn T) s (λu s'=>u=v/\s'=s) (λ_ _=>False))
  (h:J.ok Q (G (c.finish v) cs) s):J.ok Q (G (Fa b T [] todo) (c::cs)) s:=by
 refine J.step ⟨V,λw f=>?_,λe=>?_⟩
 rotate_left
 .subst e;let⟨es,he,aj,U⟩:=UI _ U;have al:seen P b.fn es=#[]:=S6 aj;rcases U with⟨u,⟨rfl,_⟩,O⟩ | ⟨x,K,_⟩;exact⟨_,λw=>by simp[G,stepG,unwind,Fa,Z,O,doReturn,Y,GStep.after,he,al],h⟩;exact K.elim
 let⟨s',ac,ag,ai,K⟩:=Ot _ U f;cases O:(results fn T).run P w with
 | halt x w'=>rw[O] at K;exact K.elim
 | ok u w'=>
  rw[O] at ac ag ai K;obtain⟨rfl,rfl⟩:=K;exact⟨_,s',w',seen P b.fn ((results fn T).events P w #[])++ #[],by simp[G,stepG,unwind,Fa,Z,O,doReturn,Y,GStep.after],h,ac,ag,by simp only[tC];exact Rw ai⟩
theorem JL.ret{s:St}{c:Frame}{v:Value}(O:b.kind=.normal)(U:b.roundOf=none)(K:BK P b.fn L n s v)(h:J.ok Q (G (c.finish v) cs) s):JL J Q b n L [] (.code .ret::k) (c::cs) s:=λT Y=>by
 obtain⟨fn,Z,K⟩:=K
 refine Judge.Eh (g':=G (Fa b T [] (.code .ret::k)) (c::cs)) rfl (λw=>by simp[G,stepG,stepG.exec,fr,Fa,U]) ?_
 exact Judge.leave O Z (K T Y) h
theorem JL.fin{s:St}{c:Frame}{v:Value}(O:b.kind=.normal)(U:b.roundOf=none)(K:BK P b.fn L n s v)(h:J.ok Q (G (c.finish v) cs) s):JL J Q b n L [] [] (c::cs) s:=λT Y=>by
 obtain⟨fn,Z,K⟩:=K
 refine Judge.Eh (g':=G (Fa b T [] []) (c::cs)) rfl (λw=>by simp[G,stepG,stepG.exec,fr,Fa,U]) ?_
 exact Judge.leave O Z (K T Y) h
theorem BK.one{f:FuncId}{s:St}{t:Tmp}{v:Value}(K:P.funcs[f]?=some fn)(O:fn.results=#[.tmp t])(h:look L t=some v):BK P f L n s v:=
 ⟨fn,K,λT U=>by
  have e:results fn T=Sem.pure v:=by
   have:=U.at_ t v h
   simp only[results,O,ss]
   show Sem.pure (T.getD t undef)=_
   rw[this]
  rw[e];exact⟨rfl,rfl⟩⟩
theorem BK.none{f:FuncId}{s:St}(K:P.funcs[f]?=some fn)(O:fn.results=#[]):BK P f L n s (.tuple #[]):=
 ⟨fn,K,λT U=>by
  have e:results fn T=Sem.pure (.tuple #[]):=by
   simp only[results,O,ss]
   rfl
  rw[e];exact⟨rfl,rfl⟩⟩
def G0:Nat->Lv_->Env
 | _,[]=>[]
 | i,v::vs=>(i,v)::G0 (i+1) vs
theorem Kx{i t:Nat}{v:Value}(h:look (G0 i vs) t=some v):i<=t/\vs[t - i]?=some v:=by
 induction vs generalizing i with
 | nil=>simp[G0,look] at h
 | cons u vs K=>
  simp only[G0,look] at h;split at h;rename_i e;subst e;cases h;simp
  .rename_i U;let⟨Y,O⟩:=K h;refine⟨by omega,?_⟩;have:t - i=(t - (i+1))+1:=by omega
   rw[this];simpa using O
end
def Bz(P:Program)(t:TypeId):Option Nat:=(P.info? t).map (·.size)
def Es(P:Program)(t:TypeId):Option Bool:=match P.underlying t with | some (.struct _)=>some true | some (.array _ _)=>some true | some _=>some false | none=>none
def zeroOf(P:Program)(t:TypeId):Option Value:=(P.info? t).bind (·.zero)
variable{sz:Nat}
theorem Fv{Q:Nat->St->Prop}(h:Bz P t=some sz)(k:Q sz s):lp P (Go.sizeOf t) s Q X:=by
 unfold Bz at h;simp only[Go.sizeOf,typeInfo,bind,Sem.bind,program,lp];cases hi:P.info? t with
 | none=>rw[hi] at h;cases h
 | some i=>rw[hi] at h;simp at h;subst h;exact k
theorem Ij{z:Value}{Q:Value->St->Prop}(h:zeroOf P t=some z)(k:Q z s):lp P (zeroValue t) s Q X:=by
 unfold zeroOf at h;simp only[zeroValue,typeInfo,bind,Sem.bind,program,lp];cases hi:P.info? t with
 | none=>rw[hi] at h;cases h
 | some i=>
  rw[hi] at h;simp at h;show lp P (match i.zero with | some v=>pure v | none=>unsupported _) s Q X
  rw[h];exact k
theorem Ox{c:Bool}{Q:Bool->St->Prop}(h:Es P t=some c)(k:Q c s):lp P (isAgg t) s Q X:=by
 unfold Es at h;simp only[isAgg,underlying,bind,Sem.bind,program,lp];cases hu:P.underlying t with
 | none=>rw[hu] at h;cases h
 | some u=>
  rw[hu] at h;cases u<;>simp at h<;>subst h<;>exact k
theorem CM{u:TypeDesc}{Q:TypeDesc->St->Prop}(h:P.underlying t=some u)(k:Q u s):lp P (underlying t) s Q X:=by
 simp only[underlying,bind,Sem.bind,program,lp,h];exact k
theorem Vv{a:Addr}{v:Value}{Q:Value->St->Prop}(h:s.cell? a=some v)(k:Q v s):lp P (load a) s Q X:=⟨V,v,h,k⟩
theorem SM{a:Addr}{Q:Av_->St->Prop}{X:Halt->St->Prop}:∀(vs:Lv_) (i:Nat) (acc:Av_),(∀j v,vs[j]?=some v->s.cell? (a.add (i+j))=some v)->Q (acc++vs.toArray) s->lp P (loadCellsFrom a i vs.length acc) s Q X
 | [],i,acc,_,k=>by simpa [loadCellsFrom,lp,pure] using k
 | v::vs,i,acc,h,k=>by
  simp only[q4,loadCellsFrom]
  refine AA _ _ (Vv (h 0 v V) ?_)
  refine SM vs (i+1) (acc.push v) (λj u hj=>?_) (by simpa using k)
  have:=h (j+1) u (by simpa using hj)
  rwa[show i+1+j=i+(j+1) from by omega]
theorem S5{a:Addr}{m:Nat}{Q:Av_->St->Prop}(hm:m=vs.length)(h:∀j v,vs[j]?=some v->s.cell? (a.add j)=some v)(k:Q vs.toArray s):lp P (loadCells a m) s Q X:=by
 subst hm;exact SM vs 0 #[] (λj v hj=>by simpa using h j v hj) (by simpa using k)
theorem S8{a:Addr}{v:Value}{Q:Value->St->Prop}(K:Es P t=some false)(h:s.cell? a=some v)(k:Q v s):lp P (loadVar t a) s Q X:=by
 unfold loadVar;refine AA _ _ (Ox K ?_);exact Vv h k
theorem Tb{a:Addr}{Q:Value->St->Prop}(K:Es P t=some true)(O:Bz P t=some vs.length)(h:∀j v,vs[j]?=some v->s.cell? (a.add j)=some v)(k:Q (.agg vs.toArray) s):lp P (loadVar t a) s Q X:=by
 unfold loadVar;refine AA _ _ (Ox K ?_);show lp P (do let r ← loadCells a (← Go.sizeOf t);pure (Value.agg r)) s Q X
 refine AA (x:=Go.sizeOf t) _ (Fv O ?_);refine AA _ _ (S5 V h ?_);exact k
variable {e:TypeId}
section
variable {x:Operand}{v:Value}{m:Int}
theorem Gi{o:Oper}{sm:Sem Value}(K:execOp ρ o=(do pure (Next.value (← sm))))(h:lp P sm s (λr s'=>r=v/\s'=s) (λ_ _=>False)):Yl P o ρ s v:=by
 unfold Yl;rw[K];exact AA _ _ (EP _ h (λr s' ⟨O,U⟩=>⟨by rw[O],U⟩) (λ_ _ h=>h))
theorem Yl.load{a:Addr}(K:Es P t=some false)(O:ρ x=.pointer (some a))(h:s.cell? a=some v):Yl P ⟨d,.load t x,ty,p,af,g⟩ ρ s v:=
 Gi (sm:=Instr.loadAt t (ρ x)) V (by rw[O];exact S8 K h ⟨rfl,rfl⟩)
theorem F4{a:Addr}(K:Es P t=some true)(O:Bz P t=some vs.length)(U:ρ x=.pointer (some a))(h:∀j v,vs[j]?=some v->s.cell? (a.add j)=some v):Yl P ⟨d,.load t x,ty,p,af,g⟩ ρ s (.agg vs.toArray):=
 Gi (sm:=Instr.loadAt t (ρ x)) V (by rw[U];exact Tb K O h ⟨rfl,rfl⟩)
theorem Yl.fieldAddr{a:Addr}{O:Array Field}{i:Nat}{K:Field}(U:P.underlying t=some (.struct O))(hi:O[i]?=some K)(Y:Bz P K.type=some (sz+1))(Z:ρ x=.pointer (some a)):
  Yl P ⟨d,.fieldAddr t x i,ty,p,af,g⟩ ρ s (.pointer (some (a.add K.offset))):=
 Gi (sm:=Instr.fieldAt t (ρ x) i) V (by
  rw[Z];unfold Instr.fieldAt
  refine AA _ _ (CM U ?_)
  simp only[hi,Instr.sureAddr,bind,Sem.bind,pure]
  refine AA (x:=fieldPlace a K) _ ?_
  unfold fieldPlace
  refine AA _ _ (Fv Y ?_)
  simp only[Nat.add_eq_zero_iff,Nat.succ_ne_self,and_false,rr,lp,pure]
  exact⟨trivial,trivial⟩)
theorem MY{a:Addr}{c:Nat}(K:P.underlying t=some (.slice e))(O:Bz P e=some sz)(U:ρ x=.slice (some a) l c)(Y:ρ y=.int kd m)(h:0<=m/\m<l):
  Yl P ⟨d,.indexAddr t x y,ty,p,af,g⟩ ρ s (.pointer (some (a.add (m.toNat*sz)))):=
 Gi (sm:=Instr.indexAt t (ρ x) (ρ y)) V (by
  rw[U,Y];unfold Instr.indexAt
  simp only[asIntOf,bind,Sem.bind,pure]
  refine AA (x:=underlying t) _ (CM K ?_)
  simp only[Sem.bind]
  refine AA (x:=underlying t) _ (CM K ?_)
  simp only[Sem.bind,h,and_self,rH]
  refine AA (x:=Go.sizeOf e) _ (Fv O ?_)
  exact⟨rfl,rfl⟩)
theorem TX{a:Addr}(K:P.underlying t=some (.array l e))(O:Bz P e=some sz)(U:ρ x=.pointer (some a))(Y:ρ y=.int kd m)(h:0<=m/\m<l):
  Yl P ⟨d,.indexAddr t x y,ty,p,af,g⟩ ρ s (.pointer (some (a.add (m.toNat*sz)))):=
 Gi (sm:=Instr.indexAt t (ρ x) (ρ y)) V (by
  rw[U,Y];unfold Instr.indexAt
  simp only[asIntOf,bind,Sem.bind,pure]
  refine AA (x:=underlying t) _ (CM K ?_)
  simp only[Sem.bind,Instr.sureAddr,pure]
  refine AA (x:=underlying t) _ (CM K ?_)
  simp only[Sem.bind,h,and_self,rH]
  refine AA (x:=Go.sizeOf e) _ (Fv O ?_)
  exact⟨rfl,rfl⟩)
end
variable {ops:Ao_}{rest:List Nat}
variable{pl:Nat}
section
variable {b:Frame}{n:Nat}
variable {i:Nat}{x:Operand}{v:Value}
theorem Jo{cells:Av_}{Q:Addr->St->Prop}(K:Nd E H B)(k:∀r,Nd E H (B++ [(r,.cells cells e (0,0))])->Q ⟨r,0,none⟩ (mk E H (B++ [(r,.cells cells e (0,0))]))):lp P (newRow e cells) (mk E H B) Q X:=by
 simp only[newRow,newObj,bind,Sem.bind,lp,pure];refine⟨V,λr O U=>?_⟩;let⟨Y,Z⟩:=KD O U (.cells cells e (0,0)) K;rw[Z];exact k r Y
theorem JL.alloc{z:Value}(K:ops[i]?=some ⟨d,.alloc e,ty,p,af,g⟩)(hw:A3 L ops ⟨d,.alloc e,ty,p,af,g⟩=some true)(O:BV b n ⟨d,.alloc e,ty,p,af,g⟩=true)(U:Nd E H B)(Y:zeroOf P e=some z)
  (h:∀r,Nd E H (B++ [(r,.cells z.cells e (0,0))])->JL J Q b n (AE L d (.pointer (some ⟨r,0,none⟩))) ds (.inRegion ops rest::k) cs (mk E H (B++ [(r,.cells z.cells e (0,0))]))):
  JL J Q b n L ds (.inRegion ops (i::rest)::k) cs (mk E H B):=
 JL.op K hw O λρ _=>by
  show lp P (do pure (Next.value (← Instr.alloc e true (.tuple #[])))) _ _ _
  refine AA _ _ ?_
  unfold Instr.alloc
  refine AA _ _ (Ij Y ?_)
  refine AA _ _ (Jo U λr Z=>?_)
  exact h r Z
theorem JL.box(K:ops[i]?=some ⟨d,.box e x,ty,p,af,g⟩)(hw:A3 L ops ⟨d,.box e x,ty,p,af,g⟩=some true)(O:BV b n ⟨d,.box e x,ty,p,af,g⟩=true)(U:Nd E H B)(Y:ev L x=some v)
  (h:∀r,Nd E H (B++ [(r,.cells v.cells e (0,0))])->JL J Q b n (AE L d (.pointer (some ⟨r,0,none⟩))) ds (.inRegion ops rest::k) cs (mk E H (B++ [(r,.cells v.cells e (0,0))]))):
  JL J Q b n L ds (.inRegion ops (i::rest)::k) cs (mk E H B):=
 JL.op K hw O λρ Z=>by
  show lp P (do pure (Next.value (← Instr.box e (ρ x)))) _ _ _
  rw[Z x v Y]
  refine AA _ _ ?_
  unfold Instr.box
  refine AA _ _ (Jo U λr ac=>?_)
  exact h r ac
def Bf(c:Av_)(off:Nat):Lv_->Av_
 | []=>c
 | v::vs=>Bf (c.setIfInBounds off v) (off+1) vs
theorem MX(c:Av_)(off:Nat)(vs:Lv_):(Bf c off vs).size=c.size:=by
 induction vs generalizing c off with
 | nil=>rfl
 | cons v vs K=>simp[Bf,K]
theorem Oc{bk:Nat}{Q:Unit->St->Prop}{X:Halt->St->Prop}{pl off:Nat}{sp:Option Nat}:∀(vs:Lv_) (j:Nat) (c:Av_) (B:List (Nat×Obj)),(∀v∈vs,CL v=true)->Nd E H B->B[pl]?=some (bk,.cells c e (0,0))->off+j+vs.length<=c.size->(sp=none∨0<j)->
  (∀B',B'=B.set pl (bk,.cells (Bf c (off+j) vs) e (0,0))->Nd E H B'->Q () (mk E H B'))->lp P (storeCells ⟨bk,off,sp⟩ vs j) (mk E H B) Q X
 | [],j,c,B,_,O,K,_,_,k=>by
  simp only[storeCells,lp,pure]
  refine k B ?_ O
  simp only[Bf]
  exact(r7 λi=>by
   by_cases hi:pl=i
   .subst hi
    let⟨Z,ac⟩:=dY.1 K
    simp[Z,ac]
   .simp [hi])
 | v::vs,j,c,B,U,O,K,hle,Y,k=>by
  simp only[storeCells,q4] at*
  have ag:off+j<c.size:=by omega
  have ai:(Addr.add ⟨bk,off,sp⟩ j)=⟨bk,off+j,none⟩:=by
   unfold Addr.add;split
   .rename_i aj;subst aj;rcases Y with rfl | Y
    .rfl
    .omega
   .rfl
  have al:(cellAt (.cells c e (0,0)) ⟨bk,off+j,none⟩).isSome=true:=by simp[cellAt,ag]
  refine AA (x:=store (Addr.add ⟨bk,off,sp⟩ j) v) _ ?_;rw[ai];refine⟨V,U v (by simp),_,J6 O K,al,by simp[frozenAt],?_⟩;simp only[lp];have am:Lo (.cells c e (0,0)) ⟨bk,off+j,none⟩ v=.cells (c.setIfInBounds (off+j) v) e (0,0):=by simp[Lo]
  rw[am,eJ O K];have ap:(B.set pl (bk,.cells (c.setIfInBounds (off+j) v) e (0,0)))[pl]?=some (bk,.cells (c.setIfInBounds (off+j) v) e (0,0)):=by
   have:pl<B.length:=(dY.1 K).1;simp[this]
  refine Oc vs (j+1) _ _ (λu hu=>U u (f9 _ hu)) (O.set K) ap (by simp;omega) (.inr (by omega)) λaq e2 aw=>k aq ?_ aw;rw[e2,sw];simp only[Bf]
  rfl
theorem QK{c:Av_}{Q:Unit->St->Prop}(K:Bz P t=some v.cells.size)(O:∀u∈v.cells.toList,CL u=true)(U:Nd E H B)(Y:B[pl]?=some (bk,.cells c e (0,0)))(hle:off+v.cells.size<=c.size)
  (k:Nd E H (B.set pl (bk,.cells (Bf c off v.cells.toList) e (0,0)))->Q () (mk E H (B.set pl (bk,.cells (Bf c off v.cells.toList) e (0,0))))):lp P (storeVar t ⟨bk,off,none⟩ v) (mk E H B) Q X:=by
 unfold storeVar;refine AA _ _ (Fv K ?_);simp only[ne_eq,not_true_eq_false,rr];refine Oc v.cells.toList 0 c B O U Y (by simpa using hle) (.inl V) λB' e Z=>?_;subst e;exact k Z
theorem JL.store{c:Av_}(pl:Nat)(O:ops[i]?=some ⟨d,.store t x y,ty,p,af,g⟩)(hw:A3 L ops ⟨d,.store t x y,ty,p,af,g⟩=some true)(U:BV b n ⟨d,.store t x y,ty,p,af,g⟩=true)(Y:Nd E H B)
  (Z:ev L x=some (.pointer (some ⟨bk,off,none⟩))) (ac:ev L y=some v) (ag:Bz P t=some v.cells.size) (ai:∀u∈v.cells.toList,CL u=true) (aj:B[pl]?=some (bk,.cells c e (0,0))) (hle:off+v.cells.size<=c.size)
  (h:Nd E H (B.set pl (bk,.cells (Bf c off v.cells.toList) e (0,0)))->JL J Q b n (AE L d undef) ds (.inRegion ops rest::k) cs (mk E H (B.set pl (bk,.cells (Bf c off v.cells.toList) e (0,0))))):
  JL J Q b n L ds (.inRegion ops (i::rest)::k) cs (mk E H B):=
 JL.op O hw U λρ K=>by
  show lp P (do Instr.storeAt t (ρ x) (ρ y);pure Next.skip) _ _ _
  rw[K x _ Z,K y _ ac]
  refine AA _ _ ?_
  unfold Instr.storeAt
  simp only[Instr.sureAddr,bind,Sem.bind,pure]
  exact QK ag ai Y aj hle λal=>h al
end
def Ga(P:Program)(t:TypeId):Option Nat:=(P.info? t).map (·.bytes)
variable{cx hi lo mx:Nat}{xs ys:Lv_}{ax:Option Addr}
section
variable {b:Frame}{n:Nat}
variable {i:Nat}{x:Operand}{v:Value}
theorem K9{inf:TypeInfo}{Q:TypeInfo->St->Prop}(h:P.info? t=some inf)(k:Q inf s):lp P (typeInfo t) s Q X:=by
 simp only[typeInfo,bind,Sem.bind,program,lp,h];exact k
theorem Q3(h:Ga P t=some sz):∃inf,P.info? t=some inf/\inf.bytes=sz:=by
 unfold Ga at h;cases hi:P.info? t with
 | none=>rw[hi] at h;cases h
 | some i=>rw[hi] at h;simp at h;exact⟨i,rfl,h⟩
theorem J7{z y:Nat}{code:BoundsCode}{f:Nat->Sem β}{K:β->St->Prop}(Y:z<=y)(O:lp P (f z) s K X):lp P (Instr.sliceBound (.int .i64 z) y code>>=f) s K X:=by
 refine AA _ _ ?_;unfold Instr.sliceBound;have U:(0:Int)<=(z:Int)/\(z:Int)<=(y:Int):=⟨by omega,by omega⟩;simp only[asIntOf,bind,Sem.bind,pure];rw[d0 U];simpa [lp] using O
theorem IS(a:α)(f:α->Sem β):((pure a:Sem α)>>=f)=f a:=rfl
theorem iH{c:Nat}:lp P (Instr.sliceBounds true l c none none none) s (λr s'=>r=(0,l,c)/\s'=s) X:=by
 unfold Instr.sliceBounds;exact⟨V,V⟩
theorem iN{c:Nat}(K:lo<=l):lp P (Instr.sliceBounds true l c (some (.int .i64 lo)) none none) s (λr s'=>r=(lo,l,c)/\s'=s) X:=by
 simp only[Instr.sliceBounds,rH,tb,tD,qP,rr,IS];exact J7 K ⟨V,V⟩
theorem iZ{c:Nat}(hh:hi<=c):lp P (Instr.sliceBounds true l c none (some (.int .i64 hi)) none) s (λr s'=>r=(0,hi,c)/\s'=s) X:=by
 simp only[Instr.sliceBounds,rH,tb,tD,qP,rr,IS];exact J7 hh ⟨V,V⟩
theorem js{c:Nat}(hh:hi<=c)(K:lo<=hi):lp P (Instr.sliceBounds true l c (some (.int .i64 lo)) (some (.int .i64 hi)) none) s (λr s'=>r=(lo,hi,c)/\s'=s) X:=by
 have e:Instr.sliceBounds true l c (some (.int .i64 lo)) (some (.int .i64 hi)) none=(Instr.sliceBound (.int .i64 hi) c .sliceAcap>>=λh=>Instr.sliceBound (.int .i64 lo) h .sliceB>>=λl=>pure (l,h,c)):=by
  simp[Instr.sliceBounds]
 rw[e];exact J7 hh (J7 K ⟨V,V⟩)
theorem iM{c:Nat}(hm:mx<=c)(hh:hi<=mx):lp P (Instr.sliceBounds true l c none (some (.int .i64 hi)) (some (.int .i64 mx))) s (λr s'=>r=(0,hi,mx)/\s'=s) X:=by
 simp only[Instr.sliceBounds,rH,tb,tD,qP,rr,IS];exact J7 hm (J7 hh ⟨V,V⟩)
theorem iD{c:Nat}(hm:mx<=c)(hh:hi<=mx)(K:lo<=hi):lp P (Instr.sliceBounds true l c (some (.int .i64 lo)) (some (.int .i64 hi)) (some (.int .i64 mx))) s (λr s'=>r=(lo,hi,mx)/\s'=s) X:=by
 simp only[Instr.sliceBounds,rH,tb,tD,qP,rr,IS];exact J7 hm (J7 hh (J7 K ⟨V,V⟩))
theorem YS{c:Nat}{Y Z ac:Option Value}
  (O:match ac with | some w=>w=.int .i64 mx | none=>mx=c) (K:match Z with | some w=>w=.int .i64 hi | none=>hi=l/\ac=none) (U:match Y with | some w=>w=.int .i64 lo | none=>lo=0) (hm:mx<=c) (hh:hi<=mx) (ag:lo<=hi):
  lp P (Instr.sliceBounds true l c Y Z ac) s (λr s'=>r=(lo,hi,mx)/\s'=s) X:=by
 cases ac with
 | none=>
  cases Z with
  | none=>
   cases Y with
   | none=>obtain rfl:mx=c:=O;obtain rfl:hi=l:=K.1;obtain rfl:lo=0:=U;exact iH
   | some w=>obtain rfl:mx=c:=O;obtain rfl:hi=l:=K.1;obtain rfl:w=.int .i64 lo:=U;exact iN ag
  | some w=>
   cases Y with
   | none=>obtain rfl:mx=c:=O;obtain rfl:w=.int .i64 hi:=K;obtain rfl:lo=0:=U;exact iZ hh
   | some w'=>obtain rfl:mx=c:=O;obtain rfl:w=.int .i64 hi:=K;obtain rfl:w'=.int .i64 lo:=U;exact js hh ag
 | some w0=>
  cases Z with
  | none=>exact absurd K.2 (λh=>by cases h)
  | some w=>
   cases Y with
   | none=>obtain rfl:w0=.int .i64 mx:=O;obtain rfl:w=.int .i64 hi:=K;obtain rfl:lo=0:=U;exact iM hm hh
   | some w'=>obtain rfl:w0=.int .i64 mx:=O;obtain rfl:w=.int .i64 hi:=K;obtain rfl:w'=.int .i64 lo:=U;exact iD hm hh ag
theorem bn{a:Option Addr}{c:Nat}{O U K:Option Value}{Q:Value->St->Prop}(Y:P.underlying t=some (.slice e))(Z:Bz P e=some sz)
  (ac:match K with | some w=>w=.int .i64 mx | none=>mx=c) (ag:match U with | some w=>w=.int .i64 hi | none=>hi=l/\K=none) (ai:match O with | some w=>w=.int .i64 lo | none=>lo=0) (hm:mx<=c) (hh:hi<=mx) (aj:lo<=hi)
  (k:Q (.slice (if mx=lo then a else a.map (·.add (lo*sz))) (hi - lo) (mx - lo)) s):lp P (Instr.slice t (.slice a l c) O U K) s Q X:=by
 unfold Instr.slice;refine AA _ _ (CM Y ?_);have hb:=YS (P:=P) (s:=s) (X:=X) ac ag ai hm hh aj;refine AA _ _ (EP _ hb ?_ (λ_ _ h=>h));rintro r s' ⟨rfl,rfl⟩;exact AA _ _ (Fv Z k)
theorem Yl.slice{ρ:Operand->Value}{a:Option Addr}{c:Nat}{olo ohi omx:Option Operand}(O:P.underlying t=some (.slice e))(U:Bz P e=some sz)(Y:ρ x=.slice a l c)
  (Z:match omx with | some w=>ρ w=.int .i64 mx | none=>mx=c) (K:match ohi with | some w=>ρ w=.int .i64 hi | none=>hi=l/\omx=none) (ac:match olo with | some w=>ρ w=.int .i64 lo | none=>lo=0) (hm:mx<=c) (hh:hi<=mx) (ag:lo<=hi):
  Yl P ⟨d,.slice t x olo ohi omx,ty,p,af,g⟩ ρ s (.slice (if mx=lo then a else a.map (·.add (lo*sz))) (hi - lo) (mx - lo)):=
 Gi (sm:=Instr.sliceAt t (ρ x) (olo.map ρ) (ohi.map ρ) (omx.map ρ)) V (by
  rw[Y];unfold Instr.sliceAt
  refine AA _ _ (CM O ?_)
  refine bn O U (mx:=mx) (hi:=hi) (lo:=lo) ?_ ?_ ?_ hm hh ag ⟨rfl,rfl⟩;cases omx<;>exact Z
  .cases ohi with
   | none=>exact⟨K.1,by rw[K.2];rfl⟩
   | some w=>exact K
  .cases olo<;>exact ac)
def Ix(s:St)(v:Value)(sz:Nat)(xs:Lv_):Prop:=
 match v with
 | .slice (some a) l c=>(a.spot=none∨l=0)/\xs.length=l*sz/\l<=c/\∀j w,xs[j]?=some w->s.cell? ⟨a.block,a.off+j,none⟩=some w
 | .slice none l _=>l=0/\xs=[]
 | _=>False
theorem EG{a:Addr}(h:a.spot=none)(j:Nat):a.add j=⟨a.block,a.off+j,none⟩:=by
 unfold Addr.add;obtain⟨b,o,sp⟩:=a;simp only at h;subst h;split;rename_i e;subst e;rfl;rfl
theorem K8{Q:Av_->St->Prop}(U:∃a c,v=.slice a l c)(h:Ix s v sz xs)(k:Q xs.toArray s):lp P (Builtin.firstCells sz l v) s Q X:=by
 obtain⟨a,c,rfl⟩:=U;cases a with
 | none=>
  obtain⟨K,rfl⟩:=h;exact k
 | some a=>
  obtain⟨K,O,Z,Y⟩:=h;refine S5 O.symm (λj w hj=>?_) k;rcases K with K | K;rw[EG K];exact Y j w hj;rw[K,sP] at O;rw[q0 O] at hj;cases hj
theorem Zl(nl:Nat):∀(r c:Nat),Builtin.growBy nl r c<=max c (2*nl+768):=by
 intro r
 induction r with
 | zero=>intro c;simp[Builtin.growBy];omega
 | succ r K=>
  intro c;simp only[Builtin.growBy];split;omega;rename_i h;have:=K (c+(c+768)/4);omega
theorem Tv{need old:Nat}(h:old<need):Builtin.nextslicecap need old<=2*need+768:=by
 unfold Builtin.nextslicecap;split;omega;split;omega;have:=Zl need 4 old;omega
theorem SL(z:Av_)(m:Nat):(Builtin.zeroCells z m).size=m*z.size:=by simp[Builtin.zeroCells]
def PR(B:List (Nat×Obj))(pl:Nat)(e:TypeId)(sz:Nat)(a:Option Addr)(l c:Nat)(xs:Lv_):Prop:=
 (a=none/\l=0/\c=0/\xs=[])∨∃bk f,a=some ⟨bk,0,none⟩/\B[pl]?=some (bk,.cells f e (0,0))/\f.size=c*sz/\l<=c/\xs=f.toList.take (l*sz)
theorem QI(c:Av_)(off:Nat)(vs:Lv_)(h:off+vs.length<=c.size):(Bf c off vs).toList.take (off+vs.length)=c.toList.take off++vs:=by
 induction vs generalizing c off with
 | nil=>simp[Bf]
 | cons v vs O=>
  simp only[Bf,q4] at*;have:=O (c.setIfInBounds off v) (off+1) (by simp;omega);rw[show off+(vs.length+1)=off+1+vs.length from by omega,this];have K:off<c.toList.length:=by simp;omega
  rw[Array.toList_setIfInBounds,ri];have U:(c.toList.set off v)[off]?=some v:=by simp at K;simp[K]
  rw[U];simp[List.take_set_of_le]
theorem Q1{a:Option Addr}{c id m:Nat}{z:Value}{Q:Value->St->Prop}
  (a6:ats[0]?=some t) {t1 a7:TypeId}(a8:ats[1]?=some t1) (a9:P.underlying t1=some (.slice a7)) (bb:P.underlying t=some (.slice e)) (be:Bz P e=some sz) (hb:Ga P e=some id) (bg:zeroOf P e=some z) (bi:z.cells.size=sz)
  (aj:Nd E H B) (al:PR B pl e sz a l c xs)
  (ai:Ix (mk E H B) (.slice ax m cx) sz ys) (bo:∀w∈ys,CL w=true) (ca:0<id) (cc:l+m<=2^40) (bv:id<=64)
  (bw:∀bk f K,a=some ⟨bk,0,none⟩->B[pl]?=some (bk,.cells f e (0,0))->K=Bf f (l*sz) ys->l+m<=c->K.size=c*sz->K.toList.take ((l+m)*sz)=xs++ys->Nd E H (B.set pl (bk,.cells K e (0,0)))->Q (.slice a (l+m) c) (mk E H (B.set pl (bk,.cells K e (0,0)))))
  (bx:a=none->m=0->Q (.slice none 0 0) (mk E H B))
  (b0:∀r K Y,l+m<=Y->K.size=Y*sz->K.toList.take ((l+m)*sz)=xs++ys->Nd E H (B++ [(r,.cells K e (0,0))])->Q (.slice (some ⟨r,0,none⟩) (l+m) Y) (mk E H (B++ [(r,.cells K e (0,0))]))):
  lp P (Builtin.append_ ats ty #[.slice a l c,.slice ax m cx]) (mk E H B) Q X:=by
 unfold Builtin.append_;simp only[a6,a8,q6,rR,si];refine AA _ _ (CM bb ?_);refine AA _ _ (Fv be ?_);refine AA _ _ (CM a9 ?_);simp only[IS,qP,rr,Builtin.lenOf,uz,rH];have Z:ys.length=m*sz:=by
  cases ax with
  | none=>obtain⟨am,ap⟩:=ai;subst am ap;simp
  | some ad=>exact ai.2.1
 have aq:∃(b1:Option Addr) (Y:Nat),Ix (mk E H B) (.slice a l c) sz xs/\b1=a/\Y=c:=by
  refine⟨a,c,?_,V,V⟩;rcases al with⟨rfl,rfl,rfl,rfl⟩ | ⟨bk,f,rfl,ac,O,ag,rfl⟩;exact⟨V,V⟩
  .have hle:l*sz<=f.size:=by rw[O];exact re _ ag
   refine⟨.inl V,by simp[sy hle],ag,λj w hj=>?_⟩;refine Uu aj ac ?_;simp only[sj];rw[r4] at hj;split at hj;simpa using hj;cases hj
 obtain⟨_,_,aq,_,_⟩:=aq;have aw:xs.length=l*sz:=by
  rcases al with⟨rfl,rfl,rfl,rfl⟩ | ⟨bk,f,rfl,ac,O,ag,rfl⟩;simp
  .have hle:l*sz<=f.size:=by rw[O];exact re _ ag
   simp[sy hle]
 split
 .rename_i a4;refine AA _ _ (K8 ⟨ax,cx,V⟩ ai ?_);rcases al with⟨rfl,rfl,rfl,rfl⟩ | ⟨bk,f,rfl,ac,O,ag,rfl⟩
  .obtain rfl:m=0:=by omega
   simp only;exact bx V V
  .simp only;have hle:l*sz+ys.length<=f.size:=by rw[Z,O,← su];exact re _ a4
   have b2:(Addr.add ⟨bk,0,none⟩ (l*sz))=⟨bk,l*sz,none⟩:=by rw[EG rfl];simp
   rw[b2];refine AA _ _ (Oc (pl:=pl) ys.toArray.toList 0 f B (by simpa using bo) aj ac (by simpa using hle) (.inl V) λB' a5 a0=>?_);simp only[rE] at a5;subst a5;refine bw bk f _ V ac V a4 (by rw[MX,O]) ?_ a0;have:=QI f (l*sz) ys hle;rw[Z,← su] at this;exact this
 .rename_i ce;have am:¬(((l+m:Nat):Int)>IntKind.i64.max/\(False∨id=0)):=by rintro⟨_,h | h⟩<;>omega
  have ap:¬(Builtin.nextslicecap (l+m) c*id>2^48):=by
   have:=Tv (need:=l+m) (old:=c) (by omega);have ci:Builtin.nextslicecap (l+m) c*id<=(2*(l+m)+768)*64:=Nat.mul_le_mul this bv;omega
  let⟨inf,a1,a2⟩:=Q3 hb;refine AA _ _ (K9 a1 ?_);rw[a2,d7 am];refine AA _ _ (K9 a1 ?_);rw[a2,d7 ap];refine AA _ _ ?_;simp only[choose,lp,Question.forced,qP,rr];refine⟨V,λb3=>?_⟩;generalize b4:(Question.appendCap (l+m) c e).cut b3=a3;have b5:l+m<=a3:=by rw[← b4];simp[Question.cut]
  refine AA _ _ (K9 a1 ?_);rw[a2];have b6:∀{α:Type}{f:Unit->Sem α}{Q:α->St->Prop},lp P (f ()) (mk E H B) Q X->lp P (askRoom (a3*id)>>=f) (mk E H B) Q X:=by
   intro α f Q O;refine AA _ _ ?_;unfold askRoom;split;exact⟨.inl ⟨V,V⟩,O⟩;exact O
  refine b6 (AA _ _ (K8 ⟨a,c,V⟩ aq ?_));refine AA _ _ (K8 ⟨ax,cx,V⟩ ai ?_);refine AA _ _ (Ij bg ?_);refine AA _ _ (Jo aj λr a0=>?_);refine b0 r _ a3 b5 ?_ ?_ a0;simp only[Array.size_append,sE,SL,bi,aw,Z];rw[← su,← su];congr 1;omega;simp only[Array.toList_append];rw[tU (by simp[aw,Z,su])];rw[sa (by simp[aw,Z,su])]
end
theorem Qf{P:Program}(x:Sem α):∀{s:St}{Q:α->St->Prop}{X:Halt->St->Prop},lp P x s Q X->lp P x s (λa s'=>Q a s'/\s'.E=s.E/\s'.q=s.q) X:=by
 induction x with
 | pure a=>intro s Q X h;exact⟨h,rfl,rfl⟩
 | load m a k K=>intro s Q X h;obtain⟨O,v,U,Y⟩:=h;exact⟨O,v,U,K _ Y⟩
 | store m a v k K=>intro s Q X h;obtain⟨O,U,o,Y,ac,ag,ai⟩:=h;exact⟨O,U,o,Y,ac,ag,K ai⟩
 | new o k K=>intro s Q X h;exact⟨h.1,λr O U=>K _ (h.2 r O U)⟩
 | shape r k K=>intro s Q X h;obtain⟨o,O,U⟩:=h;exact⟨o,O,K _ U⟩
 | freeze a n k K=>intro s Q X h;exact h
 | frozen a k K=>intro s Q X h;obtain⟨o,O,U⟩:=h;exact⟨o,O,K _ U⟩
 | getObj r k K=>intro s Q X h;obtain⟨o,O,U,Y⟩:=h;exact⟨o,O,U,K _ Y⟩
 | setObj r o k K=>intro s Q X h;obtain⟨O,U,Y⟩:=h;exact⟨O,U,K Y⟩
 | choose q k K=>
  intro s Q X h;simp only[lp] at h ⊢;split;rename_i Z;rw[d0 Z] at h;exact K _ h;rename_i Z;rw[d7 Z] at h;exact⟨h.1,λt=>K _ (h.2 t)⟩
 | sys c k K=>intro s Q X h;exact h
 | program k K=>intro s Q X h;exact K _ h
 | mark m k K=>intro s Q X h;exact⟨h.1,K h.2⟩
 | halt h=>intro s Q X h;exact h
def BE(D:Nat->Bool)(s:St):St:=⟨λb=>if D b then s.get b else s.E b,λb=>if D b then none else s.H b,s.q⟩
def CR(D:Nat->Bool)(s s':St):St:=⟨λb=>if D b then s.E b else s'.E b,λb=>if D b then s.H b else s'.H b,s'.q⟩
theorem LZ(D:Nat->Bool)(s:St):CR D s (BE D s)=s:=by
 obtain⟨E,H,q⟩:=s;unfold CR BE;congr 1;funext b;by_cases h:D b<;>simp[h];funext b;by_cases h:D b<;>simp[h]
theorem ZM{D:Nat->Bool}{s:St}(f:Fits s w):Fits (BE D s) w where
 e b o h:=by
  by_cases hd:D b;simp[BE,hd] at h;exact f.get h;simp[BE,hd] at h;exact f.e b o h
 h b o h:=by
  by_cases hd:D b;simp[BE,hd] at h;simp[BE,hd] at h;exact f.h b o h
 d b h:=by
  by_cases hd:D b;simp[BE,hd];simp[BE,hd] at h ⊢;exact f.d b h
def Fo{P:Program}(J:Judge P)(f:FuncId)(args:Av_)(s:St)(R:Value->St->Prop):Prop:=
 ∀(Q:Gs_) (c:Frame) (cs:Lf_),(∀v s',R v s'->J.ok Q (G (c.finish v) cs) s')->J.ok Q (G (Frame.enter P f args .normal) (c::cs)) s
variable{R:Value->St->Prop}
theorem Fo.Ag{P:Program}{J:Judge P}{f:FuncId}{s:St}{K:Value->St->Prop}(h:Fo J f args s R)(O:∀v s',R v s'->K v s'):Fo J f args s K:=
 λQ c cs U=>h Q c cs λv s' Y=>U v s' (O v s' Y)
section
variable {b:Frame}{n:Nat}
theorem Judge.Vg(D:Nat->Bool){ops:Ao_}{i:Nat}{rest:List Nat}{o:Oper}(Y:ops[i]?=some o)(hw:Region.wanted o (yielded ops T)=true)(a6:b.kind≠ .early)
  (hd:∀c,o.op≠ .defer c) (a7:s.q=false)
  (h:lp P (execOp (BM T) o) (BE D s) (λal s'=>upon J Q b T ds ops i rest k cs o.dst al (CR D s s')) (λ_ _=>False)):
  J.ok Q (G (fr b T ds (.inRegion ops (i::rest)::k)) cs) s:=by
 refine J.step ⟨V,λw f=>?_,λe=>by subst e;cases a7⟩;have Z:((fr b T ds (.inRegion ops (i::rest)::k)).kind==CallKind.early)=false:=by simpa [fr] using a6
 have a8:stepG P J.main (G (fr b T ds (.inRegion ops (i::rest)::k)) cs) w=stepG.apply P true (fr b T ds (.inRegion ops (i::rest)::k)) cs none (execOp (BM T) o) w:=by
  rw[stepG_op Y hw];split;rename_i l c bv e2;exact absurd e2 (hd c);rfl
 let⟨ac,am,ap,a9,O⟩:=Ot _ (Qf _ h) (ZM (D:=D) f);have aq:=Rw (P:=P) (fn:=b.fn) a9;have a1:=λv=>He (b:=b) (ds:=ds) (k:=k) T ops i rest v o Y;have key:∀w',Fits ac w'->Fr (BE D s) w ac w'->ac.E=(BE D s).E->Fits (CR D s ac) w'/\Fr s w (CR D s ac) w':=by
  intro w' g1 g2 bb;have a2:∀b,D b=true->b<w.heap.size->w'.heap[b]?=w.heap[b]? :=λb hb aw=>g2.keep b aw (by simp[BE,hb]);have a3:∀b o,(s.H b=some o∨s.E b=some o)->b<w.heap.size:=λb o Y=>by
   have:=Y.elim (f.h b o) (f.e b o);rcases f7 b w.heap.size with a0 | a0;exact a0;simp[qQ a0] at this
  refine⟨⟨λb o hb=>?_,λb o hb=>?_,λb hb=>?_⟩,⟨g2.size,λb aw hb=>?_,λb hb=>?_,λb o hb=>?_,λb hb=>?_,g2.tape,g2.os,g2.output⟩⟩;by_cases K:D b;simp[CR,K] at hb;rw[a2 b K (a3 b o (.inr hb))];exact f.e b o hb;simp[CR,K] at hb;exact g1.e b o hb;by_cases K:D b;simp[CR,K] at hb;rw[a2 b K (a3 b o (.inl hb))];exact f.h b o hb;simp[CR,K] at hb;exact g1.h b o hb;by_cases K:D b;simp[CR,K] at hb ⊢;exact f.d b hb;simp[CR,K] at hb ⊢;exact g1.d b hb;exact g2.keep b aw (by by_cases K:D b<;>simp[BE,K,hb]);by_cases K:D b;simp[CR,K] at hb;exact .inl hb;simp[CR,K] at hb;rcases g2.own b hb with q | q;left;simpa [BE,K] using q;exact .inr q;by_cases K:D b;simp[CR,K];exact hb;simp only[CR,K,qP,rr];rw[bb];simp[BE,K,hb];by_cases K:D b;simp[CR,K] at hb;exact .inl hb;simp[CR,K] at hb;rcases g2.FB b hb with q | q | q;left;simpa [BE,K] using q;right;left;simpa [BE,K] using q;exact .inr (.inr q)
 have be:∀w',(∀e∈seen P b.fn ((execOp (BM T) o).events P w #[]),Ev (BE D s) w w' e)->∀e∈seen P b.fn ((execOp (BM T) o).events P w #[]),Ev s w w' e:=by
  intro w' he e hm;have:=he e hm;have a4:∀{b wr},Hv (BE D s) w w' b wr->Hv s w w' b wr:=by
   intro b wr a5;refine⟨a5.1,?_⟩;rcases a5.2 with q | q | ⟨q,q'⟩;left;by_cases K:D b<;>simp[BE,K] at q;exact q;exact .inr (.inl q);by_cases K:D b;simp[BE,K,St.get] at q;by_cases aj:s.E b=none;left;intro bg;rw[aj,bg] at q;exact q V;exact .inr (.inr ⟨aj,q'⟩);simp[BE,K] at q;exact .inr (.inr ⟨q,q'⟩)
  unfold Ev at this ⊢;split<;>rename_i bi<;>simp only[bi] at this;exact⟨this.1,a4 this.2⟩;exact⟨this.1,a4 this.2⟩;trivial;trivial
 rw[a8];cases U:(execOp (BM T) o).run P w with
 | ok al w'=>
  rw[U] at am ap O aq;simp only[LC] at am ap aq;obtain⟨O,aj,_⟩:=O;let⟨k1,ag⟩:=key w' am ap aj;have ai:=be w' aq;cases al with
  | value v=>exact⟨_,_,w',seen P b.fn ((execOp (BM T) o).events P w #[])++ #[],by simp[stepG.apply,U,Z,GStep.after,G,a1,GO],O,k1,ag,by simpa using ai⟩
  | skip=>exact⟨_,_,w',seen P b.fn ((execOp (BM T) o).events P w #[])++ #[],by simp[stepG.apply,U,Z,GStep.after,G,a1,GO],O,k1,ag,by simpa using ai⟩
  | enter g args=>exact⟨_,_,w',seen P b.fn ((execOp (BM T) o).events P w #[])++ #[],by simp[stepG.apply,U,Z,GStep.after,G,GO,IZ],O,k1,ag,by simpa using ai⟩
  | round l g tm as bw=>exact⟨_,_,w',seen P b.fn ((execOp (BM T) o).events P w #[])++ #[],by simp[stepG.apply,U,Z,GStep.after,G,GO,IZ],O,k1,ag,by simpa using ai⟩
  | defer d=>
   have bo:=He (b:=b) (ds:=d::ds) (k:=k) T ops i rest undef o Y;exact⟨_,_,w',seen P b.fn ((execOp (BM T) o).events P w #[])++ #[],by
    rw[← bo];simp[stepG.apply,U,Z,GStep.after,G,GO,IZ];rfl,O,k1,ag,by simpa using ai⟩
  | _=>exact O.elim
 | halt x w'=>rw[U] at O;exact O.elim
end
def Sm(m:Nat)(listed:Array Bool):Bool:=(List.range m).all λi=>listed.getD i false
def Bs(listed:Array Bool)(i:Nat):Array Bool:=listed.setIfInBounds i true
variable{oi:Oper}
section
variable (J:Judge P)(Q:Gs_)(b:Frame)(ds:Ld_)(ops:Ao_)(k:Li_)(cs:Lf_)(m:Nat)(D:Nat->Bool)
def JA:Nat->Array Bool->Av_->St->Prop
 | 0,listed,T,s=>Region.ready .any ops listed=[]/\J.ok Q (G (fr b T ds (.inRegion ops []::k)) cs) s
 | fuel+1,listed,T,s=>
  (Sm m listed=true/\∀t,J.ok Q (G (fr b T ds (.inRegion ops (Region.linearise.go .any ops (fuel+1) t listed [])::k)) cs) s)∨
  (Region.ready .any ops listed≠ []/\s.q=false/\∀i∈Region.ready .any ops listed,∀o,ops[i]?=some o->(∀c,o.op≠ .defer c)/\
   (Region.wanted o (yielded ops T)=false->JA fuel (Bs listed i) (Dl T o.dst undef) s)/\
   (Region.wanted o (yielded ops T)=true->lp P (execOp (BM T) o) (BE D s) (λO s'=>match O with
    | .value v=>JA fuel (Bs listed i) (Dl T o.dst v) (CR D s s')
    | .skip=>JA fuel (Bs listed i) (Dl T o.dst undef) (CR D s s')
    | .enter f args=>∃R,Fo J f args (CR D s s') R/\∀v K,R v K->K.q=false/\(∀x o,(BE D s).E x=some o->(BE D K).E x=some o)/\JA fuel (Bs listed i) (Dl T o.dst v) K
    | _=>False) (λ_ _=>False)))
variable {J Q b ds ops k cs m D}
theorem ZF(Z:b.kind≠ .early):∀(fuel t:Nat) (listed:Array Bool) (T:Av_) (s:St),JA J Q b ds ops k cs m D fuel listed T s->
  J.ok Q (G (fr b T ds (.inRegion ops (Region.linearise.go .any ops fuel t listed [])::k)) cs) s:=by
 intro fuel
 induction fuel with
 | zero=>intro t listed T s h;simpa [Region.linearise.go] using h.2
 | succ fuel K=>
  intro t listed T s h;rcases h with⟨_,h⟩ | ⟨ac,ag,h⟩;exact h t
  .obtain⟨i,hi⟩:∃i,(Region.ready .any ops listed)[t%(Region.ready .any ops listed).length]?=some i:=by
    have:0<(Region.ready .any ops listed).length:=tX.2 ac;exact⟨_,bI (tJ _ this)⟩
   have Y:=qL hi;have hgo:Region.linearise.go .any ops (fuel+1) t listed []=i::Region.linearise.go .any ops fuel (t/(Region.ready .any ops listed).length) (Bs listed i) []:=by
    simp only[Region.linearise.go];change (match(Region.ready .any ops listed)[t%(Region.ready .any ops listed).length]? with
     | some i=>Region.linearise.go .any ops fuel (t/(Region.ready .any ops listed).length) (listed.setIfInBounds i true) [i]
     | none=>[].reverse)=_
    rw[hi];simp only;rw[linearise_go_acc];rfl
   rw[hgo];let⟨_,o,O,_⟩:=mem_ready.1 Y;let⟨hd,ai,aj⟩:=h i Y o O;cases hw:Region.wanted o (yielded ops T) with
   | false=>exact Judge.unwanted O hw (K _ _ _ _ (ai hw))
   | true=>
    refine Judge.Vg D O hw Z hd ag (EP _ (aj hw) ?_ (λ_ _ h=>h));intro al s' U;cases al with
    | value v=>exact K _ _ _ _ U
    | skip=>exact K _ _ _ _ U
    | enter f args=>
     obtain⟨R,am,ap⟩:=U;refine am Q _ cs λv aq aw=>?_;rw[He _ _ _ _ _ _ O];exact K _ _ _ _ (ap v aq aw).2.2
    | _=>exact U.elim
theorem cd{d:Option Tmp}{v:Value}{x:Operand}(h:∀t,d=some t->x≠ .tmp t):BM (Dl T d v) x=BM T x:=by
 cases d with
 | none=>rfl
 | some t=>
  cases x with
  | tmp u=>
   have K:t≠u:=λe=>h t rfl (e▸rfl);simp only[Dl,BM,f5,f6 K]
  | _=>rfl
theorem IU{d:Option Tmp}{v:Value}{o:Oper}(K:∀cs b,o.op≠ .select cs b)(h:∀t,d=some t->t ∉ o.looksAt ops):
  execOp (BM (Dl T d v)) o=execOp (BM T) o/\Region.wanted o (yielded ops (Dl T d v))=Region.wanted o (yielded ops T):=by
 refine⟨execOp_congr o K λx O=>cd λt U Y=>h t U ?_,?_⟩;subst Y;exact rt _ (List.mem_filterMap.2 ⟨.tmp t,by simpa using O,V⟩)
 .have:=wanted_put (ops:=ops) o (⟨T,[]⟩:Act) d v h
  rwa[act_put'] at this
 where
  act_put' {T : Av_}{d : Option Tmp}{v : Value} : (⟨T, []⟩ : Act).put d v = ⟨Dl T d v, []⟩ :=by cases d<;>rfl
theorem J4{d e:Option Tmp}{v u:Value}(h:∀t,d=some t->e≠some t):Dl (Dl T d v) e u=Dl (Dl T e u) d v:=by
 cases d with
 | none=>rfl
 | some t=>
  cases e with
  | none=>rfl
  | some K=>
   have O:t≠K:=λq=>h t rfl (q▸rfl);simp[Dl,tE _ _ O]
theorem S9{D:Nat->Bool}{s s':St}(K:s'.E=(BE D s).E):(BE D (CR D s s')).E=(BE D s).E:=by
 funext x;by_cases h:D x;simp[BE,CR,h,St.get];have:=uM K x;simp[BE,h] at this;simp[BE,CR,h,this]
def Jv(ops:Ao_)(listed:Array Bool)(i:Nat)(oi:Oper):Bool:=
 (List.range ops.size).all λj=>j==i || listed.getD j true || match ops[j]? with
  | some oj=>(oj.after.any λe=>Region.binds .any e&&e.on==i) || oi.apart ops oj
  | none=>true
def waits(ops:Ao_):Nat->Nat->Nat->Bool
 | 0,_,_=>false
 | f+1,j,i=>match ops[j]? with
  | some oj=>oj.after.any λe=>Region.binds .any e&&(e.on==i || waits ops f e.on i)
  | none=>true
def ER(ops:Ao_)(m:Nat):Bool:=
 (List.range ops.size).all λj=>decide (j<m) || (List.range m).all λi=>waits ops ops.size j i
def Is(ops:Ao_)(listed:Array Bool):Bool:=
 (List.range ops.size).all λj=> !listed.getD j false || match ops[j]? with
  | some oj=>oj.after.all λe=> !Region.binds .any e || listed.getD e.on false
  | none=>true
theorem QL{listed:Array Bool}(h:Is ops listed=true){j:Nat}{oj:Oper}(hj:ops[j]?=some oj)(K:listed.getD j false=true):∀e∈oj.after,Region.binds .any e=true->listed.getD e.on false=true:=by
 intro e he hb;have:=q3.1 h j (q7.2 (eF.1 hj).1);rw[K,hj] at this;simp only[uG,uH] at this;have:=sQ.1 this e he;rw[hb] at this;simpa using this
theorem SW{listed:Array Bool}(Y:Is ops listed=true){i:Nat}:∀(f j:Nat) (oj:Oper),ops[j]?=some oj->(∀e∈oj.after,Region.binds .any e=true->listed.getD e.on false=true)->waits ops f j i=true->listed.getD i false=true∨∃x,ops[x]?=none/\listed.getD x false=true:=by
 intro f
 induction f with
 | zero=>intro j oj _ _ h;cases h
 | succ f Z=>
  intro j oj hj hd h;simp only[waits,hj] at h;let⟨e,he,K⟩:=Array.any_eq_true'.1 h;simp only[eM,rO,sB] at K;obtain⟨hb,K⟩:=K;have O:=hd e he hb;rcases K with rfl | K;exact .inl O
  .cases U:ops[e.on]? with
   | none=>exact .inr ⟨_,U,O⟩
   | some o=>exact Z e.on o U (λac ag ai=>QL Y U O ac ag ai) K
theorem JA.take{i:Nat}{w:Bool}{v:Value}(hi:ops[i]?=some oi)(co:i<m)(cp:ER ops m=true)(ct:Region.noSelect ops=true)(cw:∀c,oi.op≠ .defer c):
  ∀(fuel:Nat) (listed:Array Bool) (T:Av_) (s:St),Jv ops listed i oi=true->Is ops listed=true->listed.size=ops.size->i∈Region.ready .any ops listed->s.q=false->Region.wanted oi (yielded ops T)=w->
   (w=true->∀s',s'.q=false->(∀x o,(BE D s).E x=some o->s'.E x=some o)->Yl P oi (BM T) s' v)->
   JA J Q b ds ops k cs m D fuel (Bs listed i) (Dl T oi.dst (if w then v else undef)) s->JA J Q b ds ops k cs m D (fuel+1) listed T s:=by
 have am:∀(j:Nat) (oj:Oper),ops[j]?=some oj->∀cs b,oj.op≠Op.select cs b:=λj oj h cs b=>Region.noSelect_spec ct j oj cs b h;intro fuel
 induction fuel with
 | zero=>?_
 | succ fuel a2=>?_
 all_goals
  intro listed T s b2 b3 ap a3 a4 hw aq h;refine .inr ⟨λe=>(by rw[e] at a3;cases a3),a4,λj hj oj O=>?_⟩;by_cases al:j=i
  .subst al;obtain rfl:oj=oi:=by rw[hi] at O;exact(ep O).symm
   refine⟨cw,λbg=>?_,λbi=>?_⟩;rw[bg] at hw;subst hw;exact h;rw[bi] at hw;subst hw;refine EP _ (aq V (BE D s) a4 λ_ _ h=>h).out ?_ (λ_ _ h=>h);rintro b4 s' ⟨rfl,rfl⟩;rw[LZ];exact h
  ·
   have b5:j∈Region.ready .any ops (Bs listed i):=ready_mono hj al;let⟨ag,U,b6,bo⟩:=mem_ready.1 hj;obtain rfl:U=oj:=by rw[O] at b6;exact(ep b6).symm
   have bv:=(mem_ready.1 a3).1;have cy:(U.after.any λe=>Region.binds .any e&&e.on==i)=false:=by
    rw[Array.any_eq_false];intro e he K;simp only[eM,sB] at K;have:=bo _ (Array.getElem_mem he) K.1;rw[K.2] at this;have Y:listed.getD i true=listed.getD i false∨listed.size<=i:=by
     rcases f7 i listed.size with q | q;left;simp[f5,q];exact .inr q
    rcases Y with Y | Y;rw[bv,this] at Y;cases Y;rw[f5,qQ Y] at this;simp at this
   have c0:oi.apart ops U=true:=by
    have aw:j<ops.size:=(eF.1 O).1;have:=q3.1 b2 j (q7.2 aw);simp only[rO,sB] at this;rcases this with(q | q) | q;exact absurd q al;rw[ag] at q;cases q;rw[O] at q;simp only[rO] at q;rw[cy] at q;exact q.resolve_left (by simp)
   let⟨a1,a5,a6⟩:=Oper.apart_spec c0;let⟨p1,p2⟩:=IU (ops:=ops) (T:=T) (v:=if w then v else undef) (am j U O) a1
   first
    | exact absurd b5 (by rw[h.1];simp)
    | (
     rcases h with⟨c1,_⟩ | ⟨eb,_,h⟩
     ·
      exfalso
      have c2:¬j<m:=by
       intro aw
       have:=q3.1 c1 j (q7.2 aw)
       have e2:(Bs listed i).getD j false=listed.getD j false:=getD_set_ne false (q2 al)
       rw[e2] at this
       have Y:listed.getD j true=true:=by
        rcases f7 j listed.size with q | q;simp[f5,q] at this ⊢;exact this;simp[f5,qQ q] at this
       rw[ag] at Y;cases Y
      have aw:j<ops.size:=(eF.1 O).1
      have:=q3.1 cp j (q7.2 aw)
      simp only[rO,sF] at this
      have:=q3.1 (this.resolve_left c2) i (q7.2 co)
      rcases SW b3 _ j U O (λe he hb=>bo e he hb) this with q | ⟨x,Z,ac⟩
      .have c3:i<listed.size:=by rw[ap];exact(eF.1 hi).1
       simp[f5,c3] at q bv
       rw[bv] at q;cases q
      .have:¬x<listed.size:=by rw[ap];intro K;simp[K] at Z
       simp[f5,this] at ac
     .let⟨hd,bg,bi⟩:=h j b5 U O
      have a7:Bs (Bs listed i) j=Bs (Bs listed j) i:=by
       unfold Bs;exact tE _ _ (q2 al)
      have a8:i∈Region.ready .any ops (Bs listed j):=ready_mono a3 (q2 al)
      have a9:Jv ops (Bs listed j) i oi=true:=by
       refine q3.2 λx K=>?_
       have:=q3.1 b2 x K
       simp only[rO,sB] at this ⊢
       rcases this with(q | q) | q;exact .inl (.inl q)
       .left;right
        by_cases e:j=x;subst e;rw[ag] at q;cases q;rw[Bs,getD_set_ne true e];exact q
       .exact .inr q
      have bb:(Bs listed j).size=ops.size:=by unfold Bs;simpa using ap
      have be:Is ops (Bs listed j)=true:=by
       refine q3.2 λx K=>?_
       cases bw:ops[x]? with
       | none=>simp
       | some c4=>
        simp only[rO,tf]
        by_cases e:j=x
        .subst e
         obtain rfl:c4=U:=by rw[O] at bw;exact(ep bw).symm
         right
         refine sQ.2 λe he=>?_
         cases hb:Region.binds .any e with
         | false=>simp
         | true=>
          have:=bo e he hb
          by_cases e2:j=e.on
          .rw [← e2] at this
           have bx:j<listed.size:=by rw[ap];exact(eF.1 O).1
           simp[f5,bx] at this ag
           rw[ag] at this;cases this
          .rw [Bs,getD_set_ne false e2];simpa using this
        .cases ca:(Bs listed j).getD x false with
         | false=>exact .inl rfl
         | true=>
          right
          have c5:listed.getD x false=true:=by rw[Bs,getD_set_ne false e] at ca;exact ca
          refine sQ.2 λb0 he=>?_
          cases hb:Region.binds .any b0 with
          | false=>simp
          | true=>
           have:=QL b3 bw c5 b0 he hb
           by_cases e2:j=b0.on
           .rw [← e2] at this
            have bx:j<listed.size:=by rw[ap];exact(eF.1 O).1
            simp[f5,bx] at this ag
            rw[ag] at this;cases this
           .rw [Bs,getD_set_ne false e2];simpa using this
      refine⟨hd,λc6=>?_,λc7=>?_⟩
      .have:=bg (by rw[p2];exact c6)
       rw[a7,J4 a5] at this
       let⟨Z,ac⟩:=IU (ops:=ops) (T:=T) (d:=U.dst) (v:=undef) (o:=oi) (am i oi hi) a6
       exact a2 _ _ _ a9 be bb a8 a4 (by rw[ac];exact hw) (λai s' c8 b1=>by unfold Yl;rw[Z];exact(aq ai s' c8 b1).out) this
      .have cc:=Qf _ (bi (by rw[p2];exact c7))
       rw[p1] at cc
       refine EP _ cc ?_ (λ_ _ h=>h)
       rintro b4 s' ⟨K,b1,c9⟩
       have ce:=S9 (D:=D) b1
       have ci:(CR D s s').q=false:=by show s'.q=false;rw[c9];exact a4
       cases b4 with
       | value u=>
        simp only at K ⊢
        rw[a7,J4 a5] at K
        let⟨Z,ac⟩:=IU (ops:=ops) (T:=T) (d:=U.dst) (v:=u) (o:=oi) (am i oi hi) a6
        exact a2 _ _ _ a9 be bb a8 ci (by rw[ac];exact hw) (λai s2 a0 aj=>by unfold Yl;rw[Z];exact(aq ai s2 a0 (by rw[ce] at aj;exact aj)).out) K
       | skip=>
        simp only at K ⊢
        rw[a7,J4 a5] at K
        let⟨Z,ac⟩:=IU (ops:=ops) (T:=T) (d:=U.dst) (v:=undef) (o:=oi) (am i oi hi) a6
        exact a2 _ _ _ a9 be bb a8 ci (by rw[ac];exact hw) (λai s2 a0 aj=>by unfold Yl;rw[Z];exact(aq ai s2 a0 (by rw[ce] at aj;exact aj)).out) K
       | enter f args=>
        obtain⟨R,dd,dj⟩:=K
        refine⟨R,dd,λu ea hu=>?_⟩
        let⟨ck,r1,r2⟩:=dj u ea hu
        refine⟨ck,r1,?_⟩
        rw[a7,J4 a5] at r2
        let⟨Z,ac⟩:=IU (ops:=ops) (T:=T) (d:=U.dst) (v:=u) (o:=oi) (am i oi hi) a6
        exact a2 _ _ _ a9 be bb a8 ck (by rw[ac];exact hw) (λai s2 a0 aj=>by unfold Yl;rw[Z];exact(aq ai s2 a0 (λx o K=>aj x o (r1 x o K))).out) r2
       | _=>exact K.elim)
end
section
variable (J:Judge P)(Q:Gs_)(b:Frame)(n:Nat)(ds:Ld_)(ops:Ao_)(k:Li_)(cs:Lf_)(m:Nat)(D:Nat->Bool)
def AQ(fuel:Nat)(listed:Array Bool)(L:Env)(s:St):Prop:=∀T,Has n L T->JA J Q b ds ops k cs m D fuel listed T s
end
def DJ:Nat->Bool:=λ_=>false
variable {D:Nat->Bool}{listed:Array Bool}
variable{tail:List Nat}
section
variable {b:Frame}{n m fuel:Nat}
theorem Rf(m:Nat)(D:Nat->Bool){id:Nat}(K:s.q=false)(hm:P.follows .mixedOrders=true)(O:(b.kind != .early)=true)(h:AQ J Q b n ds ops k cs m D ops.size (Array.replicate ops.size false) L s):JL J Q b n L ds (.code (.region id ops true)::k) cs s:=
 UW K hm λt T U=>ZF (by simpa using O) ops.size t _ T s (h T U)
theorem Y6{i:Nat}{v:Value}(hi:ops[i]?=some oi)(U:decide (i<m)=true)(Y:ER ops m=true)(Z:Region.noSelect ops=true)(O:(!EJ oi.op)=true)(ac:Jv ops listed i oi=true)(ag:Is ops listed=true)(ai:(listed.size==ops.size)=true)(aj:(Region.ready .any ops listed).contains i=true)(al:s.q=false)
  (hw:A3 L ops oi=some true) (am:BA n oi.dst=true) (ap:∀ρ,Fz L ρ->∀s',s'.q=false->(∀x o,(BE D s).E x=some o->s'.E x=some o)->Yl P oi ρ s' v)
  (h:AQ J Q b n ds ops k cs m D fuel (Bs listed i) (AE L oi.dst v) s):AQ J Q b n ds ops k cs m D (fuel+1) listed L s:=λT K=>by
 refine JA.take (w:=true) (v:=v) hi (by simpa using U) Y Z (λc aq=>by rw[aq] at O;simp[EJ] at O) fuel listed T s ac ag (by simpa using ai) (by simpa using aj) al (Cr K hw) (λ_ s' aw a0=>ap _ K.GL s' aw a0) ?_
 exact h _ (K.put am v)
theorem Zf{i:Nat}(hi:ops[i]?=some oi)(U:decide (i<m)=true)(Y:ER ops m=true)(Z:Region.noSelect ops=true)(K:(!EJ oi.op)=true)(ac:Jv ops listed i oi=true)(ag:Is ops listed=true)(ai:(listed.size==ops.size)=true)(aj:(Region.ready .any ops listed).contains i=true)(al:s.q=false)
  (hw:A3 L ops oi=some false) (am:BA n oi.dst=true)
  (h:AQ J Q b n ds ops k cs m D fuel (Bs listed i) (AE L oi.dst undef) s):AQ J Q b n ds ops k cs m D (fuel+1) listed L s:=λT O=>by
 refine JA.take (w:=false) (v:=undef) hi (by simpa using U) Y Z (λc ap=>by rw[ap] at K;simp[EJ] at K) fuel listed T s ac ag (by simpa using ai) (by simpa using aj) al (Cr O hw) (λe=>by cases e) ?_
 exact h _ (O.put am undef)
theorem T4(ai:s.q=false)(aj:Region.ready .any ops listed≠ [])
  (h:∀i∈Region.ready .any ops listed,∀o,ops[i]?=some o->(!EJ o.op)=true/\BA n o.dst=true/\∃w,A3 L ops o=some w/\
   (w=false->AQ J Q b n ds ops k cs m D fuel (Bs listed i) (AE L o.dst undef) s)/\
   (w=true->∀ρ,Fz L ρ->lp P (execOp ρ o) (BE D s) (λac s'=>match ac with
    | .value v=>AQ J Q b n ds ops k cs m D fuel (Bs listed i) (AE L o.dst v) (CR D s s')
    | .skip=>AQ J Q b n ds ops k cs m D fuel (Bs listed i) (AE L o.dst undef) (CR D s s')
    | .enter f args=>∃R,Fo J f args (CR D s s') R/\∀v K,R v K->K.q=false/\(∀x o,(BE D s).E x=some o->(BE D K).E x=some o)/\AQ J Q b n ds ops k cs m D fuel (Bs listed i) (AE L o.dst v) K
    | _=>False) (λ_ _=>False))):
  AQ J Q b n ds ops k cs m D (fuel+1) listed L s:=λT O=>by
 refine .inr ⟨aj,ai,λi hi o al=>?_⟩
 let⟨ag,U,w,hw,am,ap⟩:=h i hi o al
 have Y:=Cr O hw
 refine⟨λc aq=>by rw[aq] at ag;simp[EJ] at ag,λe=>?_,λe=>?_⟩
 .rw [e] at Y
  exact am Y.symm _ (O.put U undef)
 .rw [e] at Y;refine EP _ (ap Y.symm _ O.GL) ?_ (λ_ _ h=>h);intro ac s' Z;cases ac with
  | value v=>exact Z _ (O.put U v)
  | skip=>exact Z _ (O.put U undef)
  | enter f args=>
   obtain⟨R,aw,a0⟩:=Z;exact⟨R,aw,λv K a1=>let ⟨a,b,c⟩:=a0 v K a1;⟨a,b,c _ (O.put U v)⟩⟩
  | _=>exact Z.elim
theorem AQ.one{i:Nat}{o:Oper}(Z:s.q=false)(U:Region.ready .any ops listed=[i])(hi:ops[i]?=some o)(O:(!EJ o.op&&BA n o.dst)=true)(hw:A3 L ops o=some true)
  (h:∀ρ,Fz L ρ->lp P (execOp ρ o) (BE D s) (λac s'=>match ac with
    | .value v=>AQ J Q b n ds ops k cs m D fuel (Bs listed i) (AE L o.dst v) (CR D s s')
    | .skip=>AQ J Q b n ds ops k cs m D fuel (Bs listed i) (AE L o.dst undef) (CR D s s')
    | .enter f args=>∃R,Fo J f args (CR D s s') R/\∀v K,R v K->K.q=false/\(∀x o,(BE D s).E x=some o->(BE D K).E x=some o)/\AQ J Q b n ds ops k cs m D fuel (Bs listed i) (AE L o.dst v) K
    | _=>False) (λ_ _=>False)):
  AQ J Q b n ds ops k cs m D (fuel+1) listed L s:=by
 simp only[eM] at O;refine T4 Z (by rw[U];simp) λj hj o' Y=>?_;rw[U] at hj;simp at hj;subst hj;obtain rfl:o'=o:=by rw[hi] at Y;exact(ep Y).symm
 exact⟨O.1,O.2,true,hw,λe=>(by cases e),λ_=>h⟩
theorem AQ.call{i:Nat}{d:Option Tmp}{f:FuncId}{args:Array Operand}{ty:TypeId}{p:String}{af:Ae_}{g:On_}(U:s.q=false)(Y:Region.ready .any ops listed=[i])
  (Z:ops[i]?=some ⟨d,.call ⟨.value (.func f),args,ats⟩,ty,p,af,g⟩) (ac:BA n d=true) (hw:A3 L ops ⟨d,.call ⟨.value (.func f),args,ats⟩,ty,p,af,g⟩=some true) (hb:Ez P f=true) (ag:evs L args.toList=some vs)
  (ai:Fo J f vs.toArray s R) (h:∀v K,R v K->K.q=false/\(∀x o,(BE D s).E x=some o->(BE D K).E x=some o)/\AQ J Q b n ds ops k cs m D fuel (Bs listed i) (AE L d v) K):
  AQ J Q b n ds ops k cs m D (fuel+1) listed L s:=by
 refine AQ.one U Y Z (by simp[EJ,ac]) hw λρ O=>?_;have aj:args.map ρ=vs.toArray:=by
  rw[← GI O ag];apply rW;simp
 have al:ρ (.func f)=.func (.func f) #[] #[]:=O _ _ V;simp only[execOp,resolve,bind,Sem.bind,Deferred.ofValue,al,pure,invoke];have e: #[]++args.map ρ++ #[]=vs.toArray:=by rw[aj];simp
 rw[e];refine J0 hb ?_;rw[LZ];exact⟨R,ai,h⟩
theorem AQ.leaf(K:Sm m listed=true)(hgo:∀t,Region.linearise.go .any ops (fuel+1) t listed []=tail)(h:JL J Q b n L ds (.inRegion ops tail::k) cs s):AQ J Q b n ds ops k cs m D (fuel+1) listed L s:=λT O=>
 .inl ⟨K,λt=>by rw[hgo t];exact h T O⟩
theorem AQ.fin(K:Region.ready .any ops listed=[])(h:JL J Q b n L ds k cs s):AQ J Q b n ds ops k cs m D 0 listed L s:=λT O=>⟨K,JL.done h T O⟩
theorem gb{listed:Array Bool}{i:Nat}(K:Region.ready .any ops listed=[i])(h:∀t,Region.linearise.go .any ops sz t (Bs listed i) []=tail)(t:Nat):Region.linearise.go .any ops (sz+1) t listed []=i::tail:=by
 simp only[Region.linearise.go];change (match(Region.ready .any ops listed)[t%(Region.ready .any ops listed).length]? with
  | some i=>Region.linearise.go .any ops sz (t/(Region.ready .any ops listed).length) (listed.setIfInBounds i true) [i]
  | none=>[].reverse)=_
 rw[K];simp only[r9,Nat.mod_one,rR];rw[linearise_go_acc];have:=h (t/1);unfold Bs at this;rw[this];rfl
theorem ZP{i:Nat}{rest:List Nat}{d:Option Tmp}{f:FuncId}{args:Array Operand}{ty:TypeId}{p:String}{af:Ae_}{g:On_}
  (U:ops[i]?=some ⟨d,.call ⟨.value (.func f),args,ats⟩,ty,p,af,g⟩) (hw:A3 L ops ⟨d,.call ⟨.value (.func f),args,ats⟩,ty,p,af,g⟩=some true) (K:((b.kind != .early)&&BA n d)=true) (hb:Ez P f=true)
  (Y:evs L args.toList=some vs) (Z:Fo J f vs.toArray s R) (ac:∀v s',R v s'->JL J Q b n (AE L d v) ds (.inRegion ops rest::k) cs s'):
  JL J Q b n L ds (.inRegion ops (i::rest)::k) cs s:=λT O=>by
 simp only[eM] at K
 have ag:args.map (BM T)=vs.toArray:=by
  rw[← GI O.GL Y];apply rW;simp
 refine Judge.oper U (Cr O hw) (by simpa using K.1) (.inr λc ai=>by cases ai) ?_;have hd:lp P (execOp (BM T) ⟨d,.call ⟨.value (.func f),args,ats⟩,ty,p,af,g⟩) s (upon J Q b T ds ops i rest k cs d) (MB J Q b T ds ops i rest k cs):=by
  simp only[execOp,resolve,bind,Sem.bind,Deferred.ofValue,BM,pure,invoke];have e: #[]++args.map (BM T)++ #[]=vs.toArray:=by rw[ag];simp
  rw[e];refine J0 hb (Z Q _ cs λv s' aj=>?_);rw[He (o:=⟨d,.call ⟨.value (.func f),args,ats⟩,ty,p,af,g⟩) _ _ _ _ _ U];exact ac v s' aj _ (O.put K.2 v)
 exact hd
theorem Fo.enter{f:FuncId}{c:Code}(Y:P.funcs[f]?=some fn)(hb:fn.body=some c)(ai:vs.length<=fn.ntmps)
  (h:∀(Q:Gs_) (K:Frame) (cs:Lf_),(∀v s',R v s'->J.ok Q (G (K.finish v) cs) s')->JL J Q (base f) fn.ntmps (G0 0 vs) [] [.code c] (K::cs) s):Fo J f vs.toArray s R:=λQ K cs Z=>by
 have he:Frame.enter P f vs.toArray .normal=fr (base f) (vs.toArray++Array.replicate (fn.ntmps - vs.length) undef) [] [.code c]:=by
  simp[Frame.enter,fr,Y,hb,base];rfl
 rw[he];refine h Q K cs Z _ ⟨by simp;omega,λt v ac=>?_⟩;let⟨_,O⟩:=Kx ac;have ag:t<vs.length:=by
  rcases f7 t vs.length with U | U;exact U;simp at O;have:=(dY.1 O).1;omega
 rw[f5,rQ (by simpa using ag)];simp at O;simp[O]
end
variable {E':LH}{B0:List (Nat×Obj)}
variable{blk:List (Nat×Obj)}
section
variable {b:Frame}{n:Nat}
theorem VH(O:s.q=false)(h:(∃w,Fits s w)->JL J Q b n L ds k cs s):JL J Q b n L ds k cs s:=λT U=>by
 by_cases K:∃w,Fits s w;exact h K T U;exact J.step ⟨V,λw f=>absurd ⟨w,f⟩ K,λe=>by subst e;cases O⟩
theorem Tm{x:Nat}:∀{B:List (Nat×Obj)},(∃p∈B,p.1=x)->By B H x≠none
 | [],⟨p,K,_⟩=>by cases K
 | (c,o)::B,⟨p,K,e⟩=>by
  simp only[By]
  split;simp;rename_i O;rcases fP.1 K with q | q;subst q;exact absurd e.symm O;exact Tm ⟨p,q,e⟩
theorem Nd.grow(U:Nd E H B)(hd:∀x,E' x≠none->By B H x=none):Nd E' H B:=by
 have key:∀{C:List (Nat×Obj)},Nd E H C->(∀p∈C,p∈B)->Nd E' H C:=by
  intro C
  induction C with
  | nil=>intro _ _;trivial
  | cons p C Y=>
   obtain⟨c,o⟩:=p;intro hC O;refine⟨?_,hC.2.1,hC.2.2.1,Y hC.2.2.2 λp K=>O p (f9 _ K)⟩;cases Z:E' c with
   | none=>rfl
   | some u=>exact absurd (hd c (by rw[Z];simp)) (Tm ⟨(c,o),O _ (by simp),rfl⟩)
 exact key U λp K=>K
def Qr(E:LH)(sz:Nat)(v:Value)(n:Nat)(xs:Lv_):Prop:=
 ∃a c,v=.slice a n c/\n<=c/\xs.length=n*sz/\(n=0∨∃bk off f e fr,a=some ⟨bk,off,none⟩/\E bk=some (.cells f e fr)/\∀j w,xs[j]?=some w->f[off+j]?=some w)
theorem Qr.nil:Qr E sz (.slice none 0 0) 0 []:=⟨none,0,V,qH _,by simp,.inl V⟩
def GS(e:TypeId)(sz:Nat)(a:Option Addr)(l c:Nat)(blk:List (Nat×Obj))(xs:Lv_):Prop:=
 (a=none/\l=0/\c=0/\blk=[]/\xs=[])∨∃bk f,a=some ⟨bk,0,none⟩/\blk=[(bk,.cells f e (0,0))]/\f.size=c*sz/\l<=c/\xs=f.toList.take (l*sz)
theorem GS.nil{e:TypeId}:GS e sz none 0 0 [] []:=.inl ⟨V,V,V,V,V⟩
theorem GS.length{e:TypeId}{a:Option Addr}{c:Nat}(h:GS e sz a l c blk xs):xs.length=l*sz:=by
 rcases h with⟨_,rfl,_,_,rfl⟩ | ⟨bk,f,_,_,K,O,rfl⟩;simp;have:l*sz<=c*sz:=re _ O;simp[K,sy this]
theorem XI{t e:TypeId}{v:Value}{Q:Value->St->Prop}{z:Value}(K:P.underlying t=some (.slice e))(O:Bz P e=some v.cells.size)(U:zeroOf P e=some z)(ai:z.cells.size=v.cells.size)(aj:0<v.cells.size)(al:v.cells.size<=64)
  (Y:Nd E H B) (k:∀r,Nd E H (B++ [(r,.cells v.cells e (0,0))])->Q (.slice (some ⟨r,0,none⟩) 1 1) (mk E H (B++ [(r,.cells v.cells e (0,0))]))):lp P (Instr.buildSlice t 1 #[(0,v)]) (mk E H B) Q X:=by
 unfold Instr.buildSlice;refine AA _ _ (CM K ?_);refine AA _ _ (Fv O ?_);rw[d7 (by omega),d7 (by omega)];refine AA (x:=zeroValue e) _ (Ij U ?_);have Z:Instr.fill (λi=>some (i*v.cells.size,v.cells.size)) ((Array.range (1*v.cells.size)).map λi=>z.cells[i%z.cells.size]!) [(0,v)]=some v.cells:=by
  simp only[Instr.fill,Array.size_map,Array.size_range,Nat.one_mul,sP];rw[d7 (by simp)];congr 1;apply rC;intro j;have key:∀(l:Lv_) (st:Nat) (c:Av_),st+l.length<=c.size->∀j,(List.foldl (λcs (p:Value×Nat)=>cs.setIfInBounds (0+p.2) p.1) c (l.zipIdx st))[j]?=if st<=j/\j<st+l.length then l[j - st]? else c[j]? :=by
   intro l
   induction l with
   | nil=>intro st c _ j;simp;omega
   | cons x l ac=>
    intro st c am j;simp only[ui,tt,q4] at*;rw[ac (st+1) _ (by simp;omega) j];simp only[sj];by_cases ag:j=st;subst ag;rw[d7 (by omega),d0 (by omega)];rw[ti,rR,qJ (by omega)]
    .by_cases e2:st+1<=j/\j<st+1+l.length
     .rw [d0 e2,d0 (by omega)];have:j - st=(j - (st+1))+1:=by omega
      rw[this];simp
     .rw [d7 e2,d7 (by omega),f6 (by omega)]
  have:=key v.cells.toList 0 ((Array.range v.cells.size).map λi=>z.cells[i%z.cells.size]!) (by simp) j;rw[← Array.foldl_toList,Array.toList_zipIdx,this];by_cases hj:j<v.cells.size;simp[hj];simp[hj]
 rw[IS];simp only[Z];exact AA _ _ (Jo Y k)
end
variable{d1:Tmp}{t1:TypeId}
section
variable {b:Frame}{n:Nat}
theorem MT{ρ:Operand->Value}{d:Option Tmp}{x y:Operand}{ty:TypeId}{p:String}{af:Ae_}{g:On_}:
  execOp ρ ⟨d,.call ⟨.builtin .append,#[x,y],ats⟩,ty,p,af,g⟩=(do pure (Next.value (← Builtin.append_ ats ty #[ρ x,ρ y]))):=by
 simp[execOp,resolve,invoke,builtin,bind,Sem.bind,pure]
theorem XM{ρ:Operand->Value}{d:Option Tmp}{y:Operand}{t ty:TypeId}{p:String}{af:Ae_}{g:On_}:
  execOp ρ ⟨d,.buildSlice t 1 #[(0,y)],ty,p,af,g⟩=(do pure (Next.value (← Instr.buildSlice t 1 #[(0,ρ y)]))):=by
 simp[execOp]
theorem fa{L:Env}{w:Value}:ev (AE L (some d1) w) (.tmp d1)=some w:=by
 simp[AE,ev,look]
theorem HT(l r:List α)(x y:α):(l++x::r).set l.length y=l++y::r:=by simp
theorem Lg{e t:TypeId}{al c m:Nat}{a:Option Addr}{i:Nat}{rest:List Nat}{d:Option Tmp}{x y:Operand}{ty:TypeId}{p:String}{af:Ae_}{g:On_}{z:Value}{B1:List (Nat×Obj)}
  (a5:ops[i]?=some ⟨d,.call ⟨.builtin .append,#[x,y],ats⟩,ty,p,af,g⟩) (hw:A3 L ops ⟨d,.call ⟨.builtin .append,#[x,y],ats⟩,ty,p,af,g⟩=some true) (a6:BV b n ⟨d,.call ⟨.builtin .append,#[x,y],ats⟩,ty,p,af,g⟩=true)
  (a7:ev L x=some (.slice a l c)) (a8:ev L y=some (.slice ax m cx)) (a9:ats[0]?=some t) (bb:ats[1]?=some t1) (be:P.underlying t=some (.slice e)) (bg:P.underlying t1=some (.slice e)) (bi:Bz P e=some sz) (hb:Ga P e=some al) (bo:zeroOf P e=some z) (bv:z.cells.size=sz)
  (bw:0<al) (bx:al<=64) (ce:0<m) (b0:l+m<=2^40) (b1:∀w∈ys,CL w=true) (am:GS e sz a l c blk xs) (b2:Nd E H (B0++blk++B1)) (b3:Ix (mk E H (B0++blk++B1)) (.slice ax m cx) sz ys)
  (h:∀a3 ac ap,GS e sz a3 (l+m) ac ap (xs++ys)->Nd E H (B0++ap)->JL J Q b n (AE L d (.slice a3 (l+m) ac)) ds (.inRegion ops rest::k) cs (mk E H (B0++ap))):
  JL J Q b n L ds (.inRegion ops (i::rest)::k) cs (mk E H (B0++blk++B1)):=by
 refine JL.op a5 hw a6 λρ a4=>?_;rw[MT,a4 x _ a7,a4 y _ a8];have b4:PR (B0++blk++B1) B0.length e sz a l c xs:=by
  rcases am with⟨O,Z,ag,aq,ai⟩ | ⟨bk,f,O,Z,ag,aq,ai⟩;exact .inl ⟨O,Z,ag,ai⟩;refine .inr ⟨bk,f,O,?_,ag,aq,ai⟩;subst Z;simp
 have hlen:=am.length;refine AA _ _ (Q1 (pl:=B0.length) a9 bb bg be bi hb bo bv b2 b4 b3 b1 bw b0 bx ?_ ?_ ?_)
 ·
  intro bk f K aj ci ck b5 aw a0 Y;rcases am with⟨O,_⟩ | ⟨U,f0,O,Z,ag,aq,ai⟩;rw[O] at aj;cases aj
  .subst Z;have b6:U=bk:=by rw[O] at aj;simpa using aj
   subst b6;have ca:(B0++ [(U,Obj.cells f0 e (0,0))]++B1).set B0.length (U,.cells K e (0,0))=B0++ [(U,.cells K e (0,0))]++B1:=by
    rw[qI,qI];exact HT _ _ _ _
   rw[ca] at Y ⊢;have a1:Nd E H (B0++ [(U,.cells K e (0,0))]):=Nd.left Y;refine JL.drop (B0++ [(U,.cells K e (0,0))]) (λp a2=>?_) Y (h a c _ (.inr ⟨U,K,O,V,aw,b5,a0.symm⟩) a1);exact qZ.1 (rt _ a2)
 .intro _ hm;omega
 ·
  intro r K ac cc aw a0 Y;have a1:Nd E H (B0++ [(r,.cells K e (0,0))]):=Nd.pick Y;refine JL.drop (B0++ [(r,.cells K e (0,0))]) (λp a2=>?_) Y (h (some ⟨r,0,none⟩) ac _ (.inr ⟨r,K,V,V,aw,cc,a0.symm⟩) a1);refine qZ.1 ?_;rcases ik.1 a2 with q | q;simp[q];exact rm _ q
 where
  Nd.left {E H : LH}{A C : List (Nat × Obj)}(h : Nd E H (A ++ C)) : Nd E H A :=by
    induction A with
    | nil =>trivial
    | cons p A ih =>
      obtain ⟨c, o⟩ :=p
      obtain ⟨h1, h2, h3, h4⟩ :=h
      exact ⟨h1, h2, λq hq =>h3 q (rt _ hq), ih h4⟩
  Nd.pick {E H : LH}{A C F : List (Nat × Obj)}{x : Nat × Obj}(h : Nd E H (A ++ C ++ F ++ [x])) : Nd E H (A ++ [x]) :=by
    induction A with
    | nil =>
      have : ∀ (D : List (Nat × Obj)), Nd E H (D ++ [x]) -> Nd E H [x] :=by
        intro D
        induction D with
        | nil =>exact λh =>h
        | cons p D ih =>obtain ⟨c, o⟩ :=p; exact λh =>ih h.2.2.2
      exact this _ h
    | cons p A ih =>
      obtain ⟨c, o⟩ :=p
      obtain ⟨h1, h2, h3, h4⟩ :=h
      refine ⟨h1, h2, λq hq =>h3 q ?_, ih h4⟩
      rcases ik.1 hq with hq | hq
      . simp[hq]
      . exact rm _ hq
theorem Zv{e:TypeId}{v:Value}{A:List (Nat×Obj)}(K:v.cells.size=sz)(O:Nd E H (A++ [(r,.cells v.cells e (0,0))])):
  Ix (mk E H (A++ [(r,.cells v.cells e (0,0))])) (.slice (some ⟨r,0,none⟩) 1 1) sz v.cells.toList:=by
 refine⟨.inl V,by simp[K],qH _,λj w hj=>?_⟩;simp only[sj];refine Uu (i:=A.length) O (c:=v.cells) (e:=e) (f:=(0,0)) (by simp) ?_;simpa using hj
theorem YA{e t t2:TypeId}{id c:Nat}{a:Option Addr}{i ag:Nat}{rest:List Nat}{d:Option Tmp}{x y:Operand}{ty O:TypeId}{p U:String}{af Y:Ae_}{g g':On_}{z v:Value}
  (aw:ops[i]?=some ⟨some d1,.buildSlice t2 1 #[(0,y)],O,U,Y,g'⟩) (hw:A3 L ops ⟨some d1,.buildSlice t2 1 #[(0,y)],O,U,Y,g'⟩=some true) (a0:BV b n ⟨some d1,.buildSlice t2 1 #[(0,y)],O,U,Y,g'⟩=true)
  (a1:ops[ag]?=some ⟨d,.call ⟨.builtin .append,#[x,.tmp d1],ats⟩,ty,p,af,g⟩) (a2:∀w,A3 (AE L (some d1) w) ops ⟨d,.call ⟨.builtin .append,#[x,.tmp d1],ats⟩,ty,p,af,g⟩=some true) (a3:BV b n ⟨d,.call ⟨.builtin .append,#[x,.tmp d1],ats⟩,ty,p,af,g⟩=true)
  (a4:∀w,ev (AE L (some d1) w) x=some (.slice a l c)) (a5:ev L y=some v) (a6:ats[0]?=some t) (a7:ats[1]?=some t1) (a8:P.underlying t=some (.slice e)) (a9:P.underlying t1=some (.slice e)) (bb:P.underlying t2=some (.slice e)) (ai:Bz P e=some sz) (hb:Ga P e=some id) (aj:zeroOf P e=some z) (al:z.cells.size=sz)
  (be:0<id) (bg:id<=64) (Z:v.cells.size=sz) (b0:0<sz) (b1:sz<=64) (bi:l+1<=2^40) (bo:∀w∈v.cells.toList,CL w=true) (bv:GS e sz a l c blk xs) (bw:Nd E H (B0++blk))
  (h:∀w am ap ac,GS e sz am (l+1) ap ac (xs++v.cells.toList)->Nd E H (B0++ac)->JL J Q b n (AE (AE L (some d1) w) d (.slice am (l+1) ap)) ds (.inRegion ops rest::k) cs (mk E H (B0++ac))):
  JL J Q b n L ds (.inRegion ops (i::ag::rest)::k) cs (mk E H (B0++blk)):=by
 refine JL.op aw hw a0 λρ bx=>?_;rw[XM,bx y _ a5];refine AA _ _ (XI (z:=z) (v:=v) bb (by rw[Z];exact ai) aj (by rw[Z];exact al) (by omega) (by omega) bw λr aq=>?_);refine Lg (B1:=[(r,.cells v.cells e (0,0))]) (m:=1) (cx:=1) (ax:=some ⟨r,0,none⟩) (y:=.tmp d1) (x:=x) (ys:=v.cells.toList) (l:=l) (c:=c) (a:=a) (blk:=blk) (xs:=xs) a1 (a2 _) a3 (a4 _) fa a6 a7 a8 a9 ai hb aj al be bg (by omega) bi bo bv aq ?_ (h _);exact Zv Z aq
theorem X1{e:TypeId}{c:Nat}{a:Option Addr}(Y:GS e sz a l c blk xs)(K:Nd E H (B0++blk))
  (h:∀E',Le E E'->Qr E' sz (.slice a l c) l xs->Nd E' H B0->JL J Q b n L ds todo cs (mk E' H B0)):JL J Q b n L ds todo cs (mk E H (B0++blk)):=by
 rcases Y with⟨rfl,rfl,rfl,rfl,rfl⟩ | ⟨bk,f,rfl,rfl,Z,O,rfl⟩;simp only[qW] at K ⊢;exact h E (Le.refl _) .nil K
 .have ac:(B0++ [(bk,Obj.cells f e (0,0))])[B0.length]?=some (bk,Obj.cells f e (0,0)):=by simp
  refine JL.freeze B0.length K ac λE' hle ag U=>?_;have ai:(B0++ [(bk,Obj.cells f e (0,0))]).eraseIdx B0.length=B0:=by rw[sk (qH _)];simp
  rw[ai] at U ⊢;refine h E' hle ⟨_,c,V,O,?_,.inr ⟨bk,0,f,e,(0,0),V,ag,λj w hj=>?_⟩⟩ U;have:l*sz<=c*sz:=re _ O;simp[Z,sy this];rw[r4] at hj;split at hj;simpa using hj;cases hj
end
abbrev iV(n:Int):Value:=.int .i64 n
variable {c:Nat}
section
variable {x:Operand}{a:Nat}
end
variable{K:TypeInfo}
theorem RG{P:Program}{t:TypeId}(h:P.types[t]?=some K):P.info? t=some K:=by
 have:=(eF.1 h).1;unfold Tables.info?;rw[d0 this,h]
theorem A5{P:Program}{t:TypeId}(h:P.types[t]?=some K):Bz P t=some K.size:=by simp[Bz,RG h]
theorem BJ{P:Program}{t:TypeId}(h:P.types[t]?=some K):Ga P t=some K.bytes:=by simp[Ga,RG h]
theorem Eg{P:Program}{t:TypeId}(h:P.types[t]?=some K):zeroOf P t=K.zero:=by simp[zeroOf,RG h]
def gu:TypeDesc->Bool | .struct _=>true | .array _ _=>true | _=>false
theorem Dc{P:Program}{t:TypeId}{d:TypeDesc}(h:P.underlying t=some d):Es P t=some (gu d):=by
 unfold Es;rw[h];cases d<;>rfl
theorem A4{P:Program}{f:FuncId}(h:P.funcs[f]?=some fn)(hb:(!(fn.name== "runtime.NumGoroutine")&&fn.body.isSome)=true):Ez P f=true:=by
 simp only[Ez,h];exact hb
def VW(a:Nat):Nat->List Nat
 | 0=>[]
 | n+1=>VW a n++(if a.testBit n then [n] else [])
abbrev Qj(a:Nat):List Nat:=VW a 16
end Pal
namespace Pal
open Go Go.Conc
def At(E:LH)(bk o:Nat)(ws:Lv_):Prop:=∃f e fr,E bk=some (.cells f e fr)/\∀j w,ws[j]?=some w->f[o+j]?=some w
theorem At.Ag{E E':LH}{bk o:Nat}{ws:Lv_}(h:At E bk o ws)(hle:Le E E'):At E' bk o ws:=let ⟨f,e,fr,K,O⟩:=h;⟨f,e,fr,hle _ _ K,O⟩
variable{j:Nat}{w:Value}
theorem At.cell{E H:LH}{B:List (Nat×Obj)}{bk o:Nat}{ws:Lv_}(h:At E bk o ws)(hj:ws[j]?=some w):(mk E H B).cell? ⟨bk,o+j,none⟩=some w:=
 let ⟨_,_,_,K,O⟩:=h;YX K (O j w hj)
theorem At.cells{E H:LH}{B:List (Nat×Obj)}{bk o:Nat}{ws:Lv_}(h:At E bk o ws):∀j v,ws[j]?=some v->(mk E H B).cell? (Addr.add ⟨bk,o,none⟩ j)=some v:=λj v hj=>by
 rw[EG rfl];exact h.cell hj
variable {P:Program}{J:Judge P}{Q:Gs_}{ds:Ld_}{ops:Ao_}{k:Li_}{cs:Lf_}{L:Env}{s:St}{E E' H:LH}{B B0:List (Nat×Obj)}
variable {d:Option Tmp}{y:Operand}{t u ty e:TypeId}{p:String}{af:Ae_}{g:On_}{rest:List Nat}{kd:IntKind}
section
variable {b:Frame}{n:Nat}
variable {x:Operand}{v:Value}{i:Nat}
theorem JL.put(h:look L i=some v)(O:JL J Q b n (AE L (some i) v) ds k cs s):JL J Q b n L ds k cs s:=λT K=>
 O T ⟨K.size,λt w e=>by
  simp only[AE,look] at e
  split at e;rename_i U;subst U;cases e;exact K.at_ _ _ h
  .exact K.at_ _ _ e⟩
theorem MZ{q:Prop} [Decidable q] (h:look L i=some (.bool (decide q)))(O:q->JL J Q b n (AE L (some i) (.bool true)) ds k cs s)(U:¬q->JL J Q b n (AE L (some i) (.bool false)) ds k cs s):JL J Q b n L ds k cs s:=by
 by_cases K:q;refine JL.put (i:=i) (v:=.bool true) ?_ (O K);rw[h,qR K];refine JL.put (i:=i) (v:=.bool false) ?_ (U K);rw[h,qX K]
theorem Li{c:Bool}(h:look L i=some (.bool c))(K:c=true->JL J Q b n (AE L (some i) (.bool true)) ds k cs s)(O:c=false->JL J Q b n (AE L (some i) (.bool false)) ds k cs s):JL J Q b n L ds k cs s:=by
 cases c;exact JL.put h (O V);exact JL.put h (K V)
end
theorem Ep{P:Program}{s:St}{ρ:Operand->Value}{d:Option Tmp}{t ty ft:TypeId}{x:Operand}{p:String}{af:Ae_}{g:On_}{a:Addr}{O:Array Field}{i:Nat}{K:Field}(sz off:Nat)(U:P.underlying t=some (.struct O))(Y:Bz P ft=some (sz+1))(hi:O[i]?=some K)(Z:K.type=ft)(ac:K.offset=off)(ag:ρ x=.pointer (some a)):
  Yl P ⟨d,.fieldAddr t x i,ty,p,af,g⟩ ρ s (.pointer (some (a.add off))):=by
 subst Z ac;exact Yl.fieldAddr U hi Y ag
section
variable {b:Frame}{n:Nat}
variable {x:Operand}{v:Value}{i:Nat}
theorem At.EI{bk o:Nat}{ws:Lv_}(h:At E bk o ws)(K:∀x o,E x=some o->s.E x=some o)(hj:ws[j]?=some w):s.cell? ⟨bk,o+j,none⟩=some w:=by
 obtain⟨f,e,fr,O,U⟩:=h;unfold St.cell? St.get;rw[K _ _ O];exact U j w hj
theorem At.R3{bk o:Nat}{ws:Lv_}(h:At E bk o ws)(K:∀x o,E x=some o->s.E x=some o):∀j v,ws[j]?=some v->s.cell? (Addr.add ⟨bk,o,none⟩ j)=some v:=λj v hj=>by
 rw[EG rfl];exact h.EI K hj
end
variable {listed:Array Bool}
section
variable {b:Frame}{n m fuel:Nat}
variable {x:Operand}{v:Value}{i:Nat}
end
variable {D:Nat->Bool}
section
variable {b:Frame}{n m fuel i:Nat}{v:Value}
theorem AQ.put(h:look L i=some v)(O:AQ J Q b n ds ops k cs m D fuel listed (AE L (some i) v) s):AQ J Q b n ds ops k cs m D fuel listed L s:=λT K=>
 O T ⟨K.size,λt w e=>by
  simp only[AE,look] at e
  split at e;rename_i U;subst U;cases e;exact K.at_ _ _ h
  .exact K.at_ _ _ e⟩
theorem Hs{q:Prop} [Decidable q] (h:look L i=some (.bool (decide q)))(O:q->AQ J Q b n ds ops k cs m D fuel listed (AE L (some i) (.bool true)) s)(U:¬q->AQ J Q b n ds ops k cs m D fuel listed (AE L (some i) (.bool false)) s):AQ J Q b n ds ops k cs m D fuel listed L s:=by
 by_cases K:q;refine AQ.put (i:=i) (v:=.bool true) ?_ (O K);rw[h,qR K];refine AQ.put (i:=i) (v:=.bool false) ?_ (U K);rw[h,qX K]
theorem Tt{c:Bool}(h:look L i=some (.bool c))(K:c=true->AQ J Q b n ds ops k cs m D fuel listed (AE L (some i) (.bool true)) s)(O:c=false->AQ J Q b n ds ops k cs m D fuel listed (AE L (some i) (.bool false)) s):AQ J Q b n ds ops k cs m D fuel listed L s:=by
 cases c;exact AQ.put h (O V);exact AQ.put h (K V)
end
structure Rp (α:Type) where
 n:Nat
 r:LH->Lv_->α->Prop
 Ag:∀{E E':LH}{ws:Lv_}{x:α},Le E E'->r E ws x->r E' ws x
 len:∀{E:LH}{ws:Lv_}{x:α},r E ws x->ws.length=n
 one:∀{E:LH}{ws:Lv_}{x:α},r E ws x->∀w∈ws,CL w=true
def rK(kd:IntKind):Rp Int:=⟨1,λ_ ws x=>ws=[.int kd x],λ_ h=>h,λh=>by subst h;rfl,λh w hw=>by subst h;simp at hw;subst hw;rfl⟩
abbrev rI:Rp Int:=rK .i64
def rN(kd:IntKind):Rp Nat:=⟨1,λ_ ws x=>ws=[.int kd ((x:Nat):Int)],λ_ h=>h,λh=>by subst h;rfl,λh w hw=>by subst h;simp at hw;subst hw;rfl⟩
def rB:Rp Bool:=⟨1,λ_ ws x=>ws=[.bool x],λ_ h=>h,λh=>by subst h;rfl,λh w hw=>by subst h;simp at hw;subst hw;rfl⟩
def rP{α β:Type}(p:Rp α)(q:Rp β):Rp (α×β):=⟨p.n+q.n,λE ws x=>∃U Y,ws=U++Y/\p.r E U x.1/\q.r E Y x.2,
 λhle ⟨a,b,h,K,O⟩=>⟨a,b,h,p.Ag hle K,q.Ag hle O⟩,λ⟨a,b,h,K,O⟩=>by subst h;rw[qT,p.len K,q.len O],
 λ⟨a,b,h,K,O⟩ w hw=>by
  subst h
  rcases ik.1 hw with hw | hw
  .exact p.one K w hw
  .exact q.one O w hw⟩
def Am{α:Type}(p:Rp α)(E:LH)(a:Option Addr)(c:Nat)(xs:List α):Prop:=
 xs.length<=c/\((xs=[]/\∀ad:Addr,a=some ad->ad.spot=none∨c=0)∨∃bk off,a=some ⟨bk,off,none⟩/\∀(i:Nat) x,xs[i]?=some x->∃ws,p.r E ws x/\At E bk (off+i*p.n) ws)
variable{α:Type}{c:Nat}
theorem Am.Ag{p:Rp α}{E E':LH}{a:Option Addr}{xs:List α}(h:Am p E a c xs)(hle:Le E E'):Am p E' a c xs:=
 ⟨h.1,h.2.imp id λ⟨bk,off,K,O⟩=>⟨bk,off,K,λi x U=>let ⟨ws,Y,Z⟩:=O i x U;⟨ws,p.Ag hle Y,Z.Ag hle⟩⟩⟩
theorem Am.nil{p:Rp α}{E:LH}:Am p E none c []:=⟨rl _,.inl ⟨V,λ_ h=>by cases h⟩⟩
def rL{α:Type}(p:Rp α):Rp (List α):=⟨1,λE ws xs=>∃a c,ws=[.slice a xs.length c]/\Am p E a c xs,
 λhle ⟨a,c,h,K⟩=>⟨a,c,h,K.Ag hle⟩,λ⟨a,c,h,K⟩=>by subst h;rfl,λ⟨a,c,h,K⟩ w hw=>by subst h;simp at hw;subst hw;rfl⟩
def rV:Rp Value:=⟨1,λ_ ws x=>ws=[x]/\CL x=true,λ_ h=>h,λh=>by rw[h.1];rfl,λh w hw=>by rw[h.1] at hw;simp at hw;subst hw;exact h.2⟩
def rA{α:Type}(k:Nat)(p:Rp α):Rp (List α):=⟨k*p.n,λE ws xs=>xs.length=k/\∃wss:List (Lv_),ws=wss.flatten/\wss.length=k/\∀(i:Nat) x us,xs[i]?=some x->wss[i]?=some us->p.r E us x,
 λhle ⟨U,wss,h,K,O⟩=>⟨U,wss,h,K,λi x us a b=>p.Ag hle (O i x us a b)⟩,
 λ{E ws xs} ⟨U,wss,h,K,O⟩=>by
  subst h
  have:∀(wss:List (Lv_)) (xs:List α),xs.length=wss.length->(∀(i:Nat) x us,xs[i]?=some x->wss[i]?=some us->p.r E us x)->wss.flatten.length=wss.length*p.n:=by
   intro wss
   induction wss with
   | nil=>intro xs _ _;simp
   | cons us wss Z=>
    intro xs Y h
    cases xs with
    | nil=>simp at Y
    | cons x xs=>
     rw[q1,qT,p.len (h 0 x us rfl rfl),Z xs (by simpa using Y) (λi y u a b=>h (i+1) y u a b),q4,rF,uj]
  rw[this wss xs (by omega) O,K],
 λ{E ws xs} ⟨U,wss,h,K,O⟩ w hw=>by
  subst h
  let⟨us,ac,hw⟩:=sJ.1 hw
  let⟨i,hi⟩:=qZ.1 ac
  have ag:i<xs.length:=by rw[U,← K];exact(dY.1 hi).1
  exact p.one (O i _ us (bI ag) hi) w hw⟩
def ix{α:Type}(xs:List α)(i:Int):Option α:=if 0<=i then xs[i.toNat]? else none
theorem FP{xs:List α}{i:Int}{x:α}(h:ix xs i=some x):∃m:Nat,i=m/\xs[m]?=some x:=by
 unfold ix at h;split at h;exact⟨i.toNat,by omega,h⟩;cases h
def Az(x:Int):Option Int:=if -9223372036854775808<=x/\x<=9223372036854775807 then some x else none
theorem L4{x y:Int}(h:Az x=some y):y=x/\ -9223372036854775808<=x/\x<=9223372036854775807:=by
 unfold Az at h;split at h;rename_i hb;exact⟨(ep h).symm,hb⟩;cases h
variable{β:Type}
theorem bind_some{o:Option α}{f:α->Option β}{r:β}(h:o.bind f=some r):∃x,o=some x/\f x=some r:=by
 cases o with
 | none=>cases h
 | some x=>exact⟨x,rfl,h⟩
inductive Bq (S A:Type) where
 | more (s:S)
 | done (a:A)
def iter{S A:Type}(body:S->Option (Bq S A)):Nat->S->Option A
 | 0,_=>none
 | f+1,s=>match body s with
  | none=>none
  | some (.done a)=>some a
  | some (.more s')=>iter body f s'
variable{A:Type}
theorem TG{S:Type}{body:S->Option (Bq S A)}{f:Nat}{s:S}{a:A}(h:iter body (f+1) s=some a):∃st,body s=some st:=by
 simp only[iter] at h;cases hb:body s with
 | none=>rw[hb] at h;cases h
 | some st=>exact⟨st,rfl⟩
theorem TF{S:Type}{body:S->Option (Bq S A)}{f:Nat}{s:S}{a K:A}(h:iter body (f+1) s=some a)(hb:body s=some (.done K)):K=a:=by
 simp only[iter,hb] at h;exact ep h
theorem TJ{S:Type}{body:S->Option (Bq S A)}{f:Nat}{s s':S}{a:A}(h:iter body (f+1) s=some a)(hb:body s=some (.more s')):iter body f s'=some a:=by
 simp only[iter,hb] at h;exact h
abbrev Seg:=List (Nat×Obj)
def Ak(E H:LH)(S:List Seg):St:=mk E H S.flatten
def Au(E H:LH)(S:List Seg):Prop:=Nd E H S.flatten
theorem Nd.mem{E H:LH}:∀{B:List (Nat×Obj)}{b:Nat}{o:Obj},Nd E H B->(b,o)∈B->∃i:Nat,B[i]?=some (b,o):=λ_ h=>qZ.1 h
theorem Nd.iff{E H:LH}:∀{B:List (Nat×Obj)},Nd E H B↔(B.map (·.1)).Nodup/\∀p∈B,E p.1=none/\H p.1=none
 | []=>by simp[Nd]
 | (b,o)::B=>by
  simp only[Nd,r8,tc,fP,forall_eq_or_imp,Nd.iff (B:=B),q9,not_exists,not_and]
  constructor;rintro⟨K,O,U,Y,Z⟩;exact⟨⟨U,Y⟩,⟨K,O⟩,Z⟩;rintro⟨⟨U,Y⟩,⟨K,O⟩,Z⟩;exact⟨K,O,U,Y,Z⟩
variable{B':List (Nat×Obj)}
theorem Nd.perm{E H:LH}{B:List (Nat×Obj)}(h:Nd E H B)(K:B.Perm B'):Nd E H B':=by
 rw[Nd.iff] at h ⊢;exact⟨(K.map _).nodup_iff.1 h.1,λp O=>h.2 p (K.mem_iff.2 O)⟩
theorem Tl{E H:LH}{B:List (Nat×Obj)}(h:Nd E H B)(K:B.Perm B'):By B H=By B' H:=by
 funext x;by_cases O:∃p∈B,p.1=x;obtain⟨⟨b,o⟩,hm,rfl⟩:=O;let⟨i,hi⟩:=h.mem hm;let⟨j,hj⟩:=(h.perm K).mem (K.mem_iff.1 hm);rw[J6 h hi,J6 (h.perm K) hj]
 .have key:∀{C:List (Nat×Obj)},(∀p∈C,p.1≠x)->By C H x=H x:=by
   intro C
   induction C with
   | nil=>intro _;rfl
   | cons p C U=>
    intro hC;obtain⟨c,u⟩:=p;have Y:x≠c:=λe=>hC (c,u) (by simp) e.symm;simp only[By,d7 Y];exact U λp K=>hC p (f9 _ K)
  rw[key λp K e=>O ⟨p,K,e⟩,key λp Z e=>O ⟨p,K.mem_iff.2 Z,e⟩]
theorem FN{E H:LH}{B:List (Nat×Obj)}(h:Nd E H B)(K:B.Perm B'):mk E H B=mk E H B':=by unfold mk;rw[Tl h K]
variable{seg seg':Seg}
theorem Cl{S:List Seg}(h:S[j]?=some seg):S.flatten.Perm ((S.set j []).flatten++seg)/\(S.set j seg').flatten.Perm ((S.set j []).flatten++seg'):=by
 induction S generalizing j with
 | nil=>simp at h
 | cons x S K=>
  cases j with
  | zero=>
   simp at h;subst h;simp only[sO,q1,rG];exact⟨f8,f8⟩
  | succ j=>
   simp at h;let⟨O,U⟩:=K h;simp only[tB,q1,qI];exact⟨O.append_left x,U.append_left x⟩
theorem Hu{E H:LH}{S:List Seg}(K:Au E H S)(h:S[j]?=some seg):Ak E H S=mk E H ((S.set j []).flatten++seg)/\Nd E H ((S.set j []).flatten++seg):=
 ⟨FN K (Cl (seg':=seg) h).1,Nd.perm K (Cl (seg':=seg) h).1⟩
theorem Jw{E H:LH}{S:List Seg}(h:S[j]?=some seg)(K:Nd E H ((S.set j []).flatten++seg')):mk E H ((S.set j []).flatten++seg')=Ak E H (S.set j seg')/\Au E H (S.set j seg'):=
 ⟨FN K (Cl h).2.symm,Nd.perm K (Cl h).2.symm⟩
theorem F2(S:List Seg)(seg:Seg):(S++ [seg]).flatten=S.flatten++seg:=by simp
theorem FL{E H:LH}{S:List Seg}(K:Nd E H (S.flatten++seg)):mk E H (S.flatten++seg)=Ak E H (S++ [seg])/\Au E H (S++ [seg]):=by
 unfold Ak Au;rw[F2];exact⟨V,K⟩
theorem Ej{E H:LH}{S:List Seg}{i bk:Nat}{o:Obj}(K:Au E H S)(hj:S[j]?=some seg)(hi:seg[i]?=some (bk,o)):(Ak E H S).get bk=some o:=by
 have hm:(bk,o)∈S.flatten:=sJ.2 ⟨seg,qL hj,qL hi⟩;let⟨U,O⟩:=K.mem hm;exact QV K O
variable{off:Nat}
theorem BY{E H:LH}{S:List Seg}{bk:Nat}{c:Av_}{e:TypeId}{f:Nat×Nat}{v:Value}(K:Au E H S)(hj:S[j]?=some ((bk,.cells c e f)::seg))(O:c[off]?=some v):(Ak E H S).cell? ⟨bk,off,none⟩=some v:=by
 unfold St.cell?;rw[Ej (i:=0) K hj rfl];exact O
theorem Yx{E H:LH}{S:List Seg}{bk:Nat}{c:Av_}{e:TypeId}{f:Nat×Nat}{vs:Lv_}(K:Au E H S)(hj:S[j]?=some ((bk,.cells c e f)::seg))(O:∀i v,vs[i]?=some v->c[off+i]?=some v):∀i v,vs[i]?=some v->(Ak E H S).cell? (Addr.add ⟨bk,off,none⟩ i)=some v:=λi v hi=>by
 rw[EG rfl];exact BY K hj (O i v hi)
def OL{α:Type}(e:TypeId)(p:Rp α)(E:LH)(a:Option Addr)(c:Nat)(seg:Seg)(xs:List α):Prop:=
 ∃wss:List (Lv_),GS e p.n a xs.length c seg wss.flatten/\wss.length=xs.length/\∀(i:Nat) x ws,xs[i]?=some x->wss[i]?=some ws->p.r E ws x
theorem OL.Ag{e:TypeId}{p:Rp α}{E E':LH}{a:Option Addr}{xs:List α}(h:OL e p E a c seg xs)(hle:Le E E'):OL e p E' a c seg xs:=
 let ⟨wss,K,O,U⟩:=h;⟨wss,K,O,λi x ws Y hw=>p.Ag hle (U i x ws Y hw)⟩
theorem OL.nil{e:TypeId}{p:Rp α}{E:LH}:OL e p E none 0 [] []:=⟨[],GS.nil,V,λi x ws K=>by simp at K⟩
variable{wss:List (Lv_)}
theorem IX{p:Rp α}{E:LH}{xs:List α}(K:wss.length=xs.length)(h:∀(i:Nat) x ws,xs[i]?=some x->wss[i]?=some ws->p.r E ws x):∀ws∈wss,ws.length=p.n:=λws hw=>by
 let⟨i,hi⟩:=qZ.1 hw
 have O:i<xs.length:=by rw[← K];exact(dY.1 hi).1
 exact p.len (h i _ ws (bI O) hi)
theorem Lb{α:Type}{n:Nat}:∀{wss:List (List α)},(∀ws∈wss,ws.length=n)->∀{i:Nat}{ws:List α},wss[i]?=some ws->∀j w,ws[j]?=some w->wss.flatten[i*n+j]?=some w
 | [],_,_,_,h,_,_,_=>by simp at h
 | us::wss,K,0,ws,h,j,w,hj=>by
  simp at h;subst h
  have:j<us.length:=(dY.1 hj).1
  simp only[q1,sP,sj]
  rw[qO this];exact hj
 | us::wss,K,i+1,ws,h,j,w,hj=>by
  simp at h
  have hu:us.length=n:=K us (by simp)
  simp only[q1]
  rw[qK (by rw[hu,rF];omega)]
  have e:(i+1)*n+j - us.length=i*n+j:=by rw[hu,rF];omega
  rw[e];exact Lb (λws hw=>K ws (f9 _ hw)) h j w hj
variable {ρ:Operand->Value}{z:Operand}{kd':IntKind}{m':Int}
variable{r:Int}{ps:Array (Nat×Operand)}
section
variable {x:Operand}{v:Value}{m:Int}{a b:Nat}
theorem Sw{a:Nat}:IntKind.u64.wrap (a:Int)=((a%2^64:Nat):Int):=by
 simp only[IntKind.wrap,IntKind.bits,IntKind.signed];simp
theorem cG(K:ρ x=.int .u64 (a:Int))(O:ρ y=.int .u64 (b:Int)):Yl P ⟨d,.binOp .add t x y u,ty,p,af,g⟩ ρ s (.int .u64 (((a+b)%2^64:Nat):Int)):=by
 have h:=Yl.add (P:=P) (s:=s) (d:=d) (t:=t) (u:=u) (ty:=ty) (p:=p) (af:=af) (g:=g) K O;rw[show((a:Int)+(b:Int))=((a+b:Nat):Int) by omega,Sw] at h;exact h
theorem OR(K:ρ x=.int .u64 (a:Int))(O:ρ y=.int .u64 (b:Int)):Yl P ⟨d,.binOp .mul t x y u,ty,p,af,g⟩ ρ s (.int .u64 (((a*b)%2^64:Nat):Int)):=by
 have h:=Yl.mul (P:=P) (s:=s) (d:=d) (t:=t) (u:=u) (ty:=ty) (p:=p) (af:=af) (g:=g) K O;rw[show((a:Int)*(b:Int))=((a*b:Nat):Int) by rw[ur],Sw] at h;exact h
theorem OH(K:ρ x=.int .u64 (a:Int))(O:ρ y=.int .u64 (b:Int)):Yl P ⟨d,.binOp .xor t x y u,ty,p,af,g⟩ ρ s (.int .u64 (((a ^^^ b)%2^64:Nat):Int)):=by
 have h:=Yl.xor (P:=P) (s:=s) (d:=d) (t:=t) (u:=u) (ty:=ty) (p:=p) (af:=af) (g:=g) K O;have e:(BitVec.ofInt IntKind.u64.bits (a:Int) ^^^ BitVec.ofInt IntKind.u64.bits (b:Int)).toNat=(a ^^^ b)%2^64:=by
  rw[Nat.xor_mod_two_pow];rw[uC,uC];show(BitVec.ofNat 64 a ^^^ BitVec.ofNat 64 b).toNat=_;rw[BitVec.toNat_xor,BitVec.toNat_ofNat,BitVec.toNat_ofNat]
 rw[e,Sw,Nat.mod_mod] at h;exact h
theorem dk(K:ρ x=.int .u64 (a:Int))(O:ρ y=.int .u64 (b:Int))(U:b≠0):Yl P ⟨d,.binOp .rem t x y u,ty,p,af,g⟩ ρ s (.int .u64 ((a%b:Nat):Int)):=by
 have h:=Yl.rem (P:=P) (s:=s) (d:=d) (t:=t) (u:=u) (ty:=ty) (p:=p) (af:=af) (g:=g) K O (by omega);rw[show(a:Int).tmod (b:Int)=((a%b:Nat):Int) from rfl] at h;exact h
theorem Me(c:Nat)(K:ρ x=.int .u64 (a:Int))(O:ρ y=.int .u64 (c:Int))(U:c<=64):Yl P ⟨d,.binOp .shr t x y u,ty,p,af,g⟩ ρ s (.int .u64 ((a>>>c:Nat):Int)):=by
 have h:=Yl.shr (P:=P) (s:=s) (d:=d) (t:=t) (u:=u) (ty:=ty) (p:=p) (af:=af) (g:=g) K O (by omega);have e:min (c:Int).toNat IntKind.u64.bits=c:=by simp[IntKind.bits];omega
 rw[e,sT _ (Int.pow_nonneg (by decide))] at h;have e2:(a:Int)/2^c=((a>>>c:Nat):Int):=by rw[s0,Int.natCast_ediv];rfl
 rw[e2] at h;exact h
def DO(m:Int):Nat:=(m%2^64).toNat
def NK(a:Nat):Int:=IntKind.i64.wrap (a:Int)
theorem Yl.DO(K:P.underlying t=some (.int .i64))(hu:P.underlying u=some (.int .u64))(O:ρ x=iV m):Yl P ⟨d,.convert t u x,ty,p,af,g⟩ ρ s (.int .u64 ((DO m:Nat):Int)):=by
 have h:=F6 (P:=P) (s:=s) (d:=d) (ty:=ty) (p:=p) (af:=af) (g:=g) K hu O
 have e:IntKind.u64.wrap m=((Pal.DO m:Nat):Int):=by
  unfold Pal.DO;simp only[IntKind.wrap,IntKind.bits,IntKind.signed];simp;omega
 rw[e] at h;exact h
theorem gX(K:P.underlying t=some (.int .u64))(hu:P.underlying u=some (.int .i64))(O:ρ x=.int .u64 (a:Int)):Yl P ⟨d,.convert t u x,ty,p,af,g⟩ ρ s (iV (NK a)):=
 F6 (P:=P) (s:=s) (d:=d) (ty:=ty) (p:=p) (af:=af) (g:=g) K hu O
theorem F5(K:ρ x=iV m)(O:ρ y=iV m')(h:Az (m+m')=some r):Yl P ⟨d,.binOp .add t x y u,ty,p,af,g⟩ ρ s (iV r):=by
 obtain⟨rfl,hb⟩:=L4 h;exact cb K O hb
theorem Eo(K:ρ x=iV m)(O:ρ y=iV m')(h:Az (m - m')=some r):Yl P ⟨d,.binOp .sub t x y u,ty,p,af,g⟩ ρ s (iV r):=by
 obtain⟨rfl,hb⟩:=L4 h;exact dv K O hb
theorem Na(K:ρ x=iV m)(O:ρ y=iV m')(h:Az (m*m')=some r):Yl P ⟨d,.binOp .mul t x y u,ty,p,af,g⟩ ρ s (iV r):=by
 obtain⟨rfl,hb⟩:=L4 h;exact bR K O hb
theorem HP(K:ρ x=iV m)(h:Az (-m)=some r):Yl P ⟨d,.unOp .neg t x,ty,p,af,g⟩ ρ s (iV r):=by
 obtain⟨rfl,hb⟩:=L4 h;exact bL K hb
theorem Io(K:ρ x=.int kd m)(O:ρ y=.int kd m'):Yl P ⟨d,.binOp .neq t x y u,ty,p,af,g⟩ ρ s (.bool (decide (m≠m'))):=by
 have h:=Yl.neq (P:=P) (s:=s) (d:=d) (t:=t) (u:=u) (ty:=ty) (p:=p) (af:=af) (g:=g) K O;simpa using h
theorem Mh{q:Prop} [Decidable q] (K:ρ x=.bool (decide q)):Yl P ⟨d,.unOp .not t x,ty,p,af,g⟩ ρ s (.bool (decide (¬q))):=by
 have h:=Yl.not (P:=P) (s:=s) (d:=d) (t:=t) (ty:=ty) (p:=p) (af:=af) (g:=g) K;simpa using h
theorem Q7:execOp ρ ⟨d,.build t ps,ty,p,af,g⟩=(do pure (Next.value (← Instr.build t (ps.map λ(j,x)=>(j,ρ x))))):=by
 simp only[execOp]
theorem Yl.build{z:Value}{K:Array Field}{vs:List (Nat×Value)}{places:Array (Nat×Nat)}{cells:Av_}(Y:zeroOf P t=some z)(Z:P.underlying t=some (.struct K))(ac:K.toList.mapM (λf=>(Bz P f.type).map λn=>(f.offset,n))=some places.toList)
  (ag:ps.toList.map (λ(j,x)=>(j,ρ x))=vs) (ai:Instr.fill (places[·]?) z.cells vs=some cells):Yl P ⟨d,.build t ps,ty,p,af,g⟩ ρ s (.agg cells):=by
 refine Gi Q7 ?_;unfold Instr.build;refine AA (x:=zeroValue t) _ (Ij Y ?_);refine AA _ _ (CM Z ?_);simp only;have key:∀(l:List Field) (acc:List (Nat×Nat)) {Q:List (Nat×Nat)->St->Prop}{X:Halt->St->Prop}(ps:List (Nat×Nat)),l.mapM (λf=>(Bz P f.type).map λn=>(f.offset,n))=some ps->Q (acc.reverse++ps) s->lp P (List.mapM.loop (m:=Sem) (λf=>do pure (f.offset,← Go.sizeOf f.type)) l acc) s Q X:=by
  intro l
  induction l with
  | nil=>
   intro acc Q X ps h k;simp at h;subst h;simp only[qW] at k;exact k
  | cons f l aj=>
   intro acc Q X ps h k;simp only[tZ,bind] at h;cases O:Bz P f.type with
   | none=>rw[O] at h;simp at h
   | some n=>
    rw[O] at h;simp only[rZ,Option.bind_some] at h;let⟨al,am,U⟩:=bind_some h;simp at U;subst U;have:=aj ((f.offset,n)::acc) (Q:=Q) (X:=X) al am (by simpa using k);simp only[List.mapM.loop];exact AA _ _ (AA (x:=Go.sizeOf f.type) _ (Fv O this))
 have e:(ps.map λ(j,x)=>(j,ρ x)).toList=vs:=by rw[← ag,tL]
 refine AA _ _ ?_;rw[ss];refine AA (x:=List.mapM.loop (m:=Sem) (λf=>do pure (f.offset,← Go.sizeOf f.type)) K.toList []) (f:=λr=>pure r.toArray) (key K.toList [] places.toList ac ?_)
 simp only[List.reverse_nil,rG,lp,pure];rw[e,ai];exact⟨V,V⟩
end
variable {S:List Seg}
variable{todo:Li_}{sz:Nat}{d1:Tmp}{ats:Array TypeId}{g':On_}{fn:Func}{R:Value->LH->Seg->Prop}{args:Array Operand}{S':List Seg}
section
variable {b:Frame}{n:Nat}
variable {x:Operand}{v:Value}{i:Nat}
theorem JS.box(O:ops[i]?=some ⟨d,.box e x,ty,p,af,g⟩)(hw:A3 L ops ⟨d,.box e x,ty,p,af,g⟩=some true)(U:BV b n ⟨d,.box e x,ty,p,af,g⟩=true)(Y:Au E H S)(Z:ev L x=some v)
  (h:∀r,Au E H (S++ [[(r,.cells v.cells e (0,0))]])->JL J Q b n (AE L d (.pointer (some ⟨r,0,none⟩))) ds (.inRegion ops rest::k) cs (Ak E H (S++ [[(r,.cells v.cells e (0,0))]]))):
  JL J Q b n L ds (.inRegion ops (i::rest)::k) cs (Ak E H S):=
 JL.box O hw U Y Z λr K=>by rw[(FL K).1];exact h r (FL K).2
theorem JS.alloc{z:Value}(O:ops[i]?=some ⟨d,.alloc e,ty,p,af,g⟩)(hw:A3 L ops ⟨d,.alloc e,ty,p,af,g⟩=some true)(U:BV b n ⟨d,.alloc e,ty,p,af,g⟩=true)(Y:Au E H S)(Z:zeroOf P e=some z)
  (h:∀r,Au E H (S++ [[(r,.cells z.cells e (0,0))]])->JL J Q b n (AE L d (.pointer (some ⟨r,0,none⟩))) ds (.inRegion ops rest::k) cs (Ak E H (S++ [[(r,.cells z.cells e (0,0))]]))):
  JL J Q b n L ds (.inRegion ops (i::rest)::k) cs (Ak E H S):=
 JL.alloc O hw U Y Z λr K=>by rw[(FL K).1];exact h r (FL K).2
theorem JS.store{bk:Nat}{c:Av_}(j:Nat)(U:ops[i]?=some ⟨d,.store t x y,ty,p,af,g⟩)(hw:A3 L ops ⟨d,.store t x y,ty,p,af,g⟩=some true)(Y:BV b n ⟨d,.store t x y,ty,p,af,g⟩=true)(Z:Au E H S)
  (ac:ev L x=some (.pointer (some ⟨bk,off,none⟩))) (ag:ev L y=some v) (ai:Bz P t=some v.cells.size) (aj:∀u∈v.cells.toList,CL u=true) (K:S[j]?=some [(bk,.cells c e (0,0))]) (hle:off+v.cells.size<=c.size)
  (h:Au E H (S.set j [(bk,.cells (Bf c off v.cells.toList) e (0,0))])->JL J Q b n (AE L d undef) ds (.inRegion ops rest::k) cs (Ak E H (S.set j [(bk,.cells (Bf c off v.cells.toList) e (0,0))]))):
  JL J Q b n L ds (.inRegion ops (i::rest)::k) cs (Ak E H S):=by
 let⟨al,am⟩:=Hu Z K;rw[al];refine JL.store (S.set j []).flatten.length U hw Y am ac ag ai aj (c:=c) (e:=e) (by simp) hle λO=>?_;have ap:((S.set j []).flatten++ [(bk,Obj.cells c e (0,0))]).set (S.set j []).flatten.length (bk,.cells (Bf c off v.cells.toList) e (0,0))=(S.set j []).flatten++ [(bk,.cells (Bf c off v.cells.toList) e (0,0))]:=HT _ _ _ _;rw[ap] at O ⊢;let⟨aq,aw⟩:=Jw K O;rw[aq];exact h aw
theorem JS.drop(j:Nat)(Y:Au E H S)(K:S[j]?=some seg)(h:Au E H (S.set j [])->JL J Q b n L ds todo cs (Ak E H (S.set j []))):JL J Q b n L ds todo cs (Ak E H S):=by
 let⟨Z,O⟩:=Hu Y K;rw[Z];have ac:Nd E H ((S.set j []).flatten++ []):=by rw[qW];exact Lg.Nd.left O
 let⟨U,ag⟩:=Jw (seg':=[]) K ac;refine JL.drop (S.set j []).flatten (λq ai=>qZ.1 (rt _ ai)) O ?_;have aj:(S.set j []).flatten++ []=(S.set j []).flatten:=qW _;rw[aj] at U;rw[U];exact h ag
theorem C8{bk:Nat}{c:Av_}{f:Nat×Nat}(j:Nat)(O:Au E H S)(U:S[j]?=some [(bk,.cells c e f)])
  (h:∀E',Le E E'->At E' bk 0 c.toList->Au E' H (S.set j [])->JL J Q b n L ds todo cs (Ak E' H (S.set j []))):JL J Q b n L ds todo cs (Ak E H S):=by
 let⟨Y,Z⟩:=Hu O U;rw[Y];have ac:((S.set j []).flatten++ [(bk,Obj.cells c e f)])[(S.set j []).flatten.length]?=some (bk,Obj.cells c e f):=by simp
 refine JL.freeze (S.set j []).flatten.length Z ac λE' hle ag K=>?_;have ai:((S.set j []).flatten++ [(bk,Obj.cells c e f)]).eraseIdx (S.set j []).flatten.length=(S.set j []).flatten:=by rw[sk (qH _)];simp
 rw[ai] at K ⊢;exact h E' hle ⟨_,_,_,ag,λi w hi=>by simpa using hi⟩ K
theorem BO{pp:Rp α}{a:Option Addr}{xs:List α}(j:Nat)(U:OL e pp E a c seg xs)(aj:Au E H S)(al:S[j]?=some seg)
  (h:∀E',Le E E'->Am pp E' a c xs->Au E' H (S.set j [])->JL J Q b n L ds todo cs (Ak E' H (S.set j []))):JL J Q b n L ds todo cs (Ak E H S):=by
 obtain⟨wss,U,ac,ag⟩:=U;have am:∀ad:Addr,a=some ad->ad.spot=none:=λad K=>by
  rcases U with⟨O,_⟩ | ⟨bk,f,O,_⟩;rw[O] at K;cases K;rw[O] at K;cases K;rfl
 let⟨O,ap⟩:=Hu aj al;rw[O];refine X1 U ap λE' hle aq aw=>h E' hle ?_ aw;obtain⟨a0,a1,Y,a2,a6,Z⟩:=aq;obtain⟨rfl,-,rfl⟩:a=a0/\xs.length=xs.length/\c=a1:=by
  simp only[Value.slice.injEq] at Y;exact⟨Y.1,V,Y.2.2⟩
 refine⟨a2,?_⟩;rcases Z with Z | ⟨bk,off,f,a3,fr,g1,g2,a4⟩;exact .inl ⟨q0 Z,λad K=>.inl (am ad K)⟩
 .refine .inr ⟨bk,off,g1,λi x ai=>?_⟩;have a5:i<wss.length:=by rw[ac];exact(dY.1 ai).1
  have hw:=bI a5;refine⟨wss[i],pp.Ag hle (ag i x _ ai hw),f,a3,fr,g2,λm w hm=>?_⟩;rw[sU];exact a4 _ w (Lb (IX ac ag) hw m w hm)
theorem XZ{pp:Rp α}{xs:List α}{x:α}{ws:Lv_}(O:wss.length=xs.length)(h:∀(i:Nat) x ws,xs[i]?=some x->wss[i]?=some ws->pp.r E ws x)(U:pp.r E ws x):
  ∀(i:Nat) y us,(xs++ [x])[i]?=some y->(wss++ [ws])[i]?=some us->pp.r E us y:=by
 intro i y us K hu;rcases f7 i xs.length with hi | hi;rw[qO hi] at K;rw[qO (by omega)] at hu;exact h i y us K hu
 .rw [qK hi] at K;rw[qK (by omega),O] at hu;cases hm:i - xs.length with
  | zero=>rw[hm] at K hu;simp at K hu;subst K hu;exact U
  | succ m=>rw[hm] at K;simp at K
theorem Ti{pp:Rp α}{t1 t2:TypeId}{a:Option Addr}{xs:List α}{xv:α}{id:Nat}{Y:TypeId}{Z:String}{ac:Ae_}{z:Value}(j:Nat)
  (ap:ops[i]?=some ⟨some d1,.buildSlice t2 1 #[(0,y)],Y,Z,ac,g'⟩) (hw:A3 L ops ⟨some d1,.buildSlice t2 1 #[(0,y)],Y,Z,ac,g'⟩=some true) (aq:BV b n ⟨some d1,.buildSlice t2 1 #[(0,y)],Y,Z,ac,g'⟩=true)
  (aw:ops[id]?=some ⟨d,.call ⟨.builtin .append,#[x,.tmp d1],ats⟩,ty,p,af,g⟩) (a0:∀w,A3 (AE L (some d1) w) ops ⟨d,.call ⟨.builtin .append,#[x,.tmp d1],ats⟩,ty,p,af,g⟩=some true) (a1:BV b n ⟨d,.call ⟨.builtin .append,#[x,.tmp d1],ats⟩,ty,p,af,g⟩=true)
  (a2:∀w,ev (AE L (some d1) w) x=some (.slice a xs.length c)) (a3:ev L y=some v) (a4:ats[0]?=some t) (a5:ats[1]?=some t1) (a6:P.underlying t=some (.slice e)) (a7:P.underlying t1=some (.slice e)) (a8:P.underlying t2=some (.slice e)) (a9:Bz P e=some pp.n) (hb:Ga P e=some sz) (bb:zeroOf P e=some z) (be:z.cells.size=pp.n)
  (bg:0<sz) (bi:sz<=64) (bo:0<pp.n) (bv:pp.n<=64) (bw:xs.length+1<=2^40) (ag:OL e pp E a c seg xs) (ai:pp.r E v.cells.toList xv) (bx:Au E H S) (al:S[j]?=some seg)
  (h:∀w K O seg',OL e pp E K O seg' (xs++ [xv])->Au E H (S.set j seg')->JL J Q b n (AE (AE L (some d1) w) d (.slice K (xs++ [xv]).length O)) ds (.inRegion ops rest::k) cs (Ak E H (S.set j seg'))):
  JL J Q b n L ds (.inRegion ops (i::id::rest)::k) cs (Ak E H S):=by
 obtain⟨wss,ag,am,b0⟩:=ag;let⟨b1,b2⟩:=Hu bx al;rw[b1];have b3:v.cells.size=pp.n:=by simpa using pp.len ai
 refine YA ap hw aq aw a0 a1 a2 a3 a4 a5 a6 a7 a8 a9 hb bb be bg bi b3 bo bv bw (pp.one ai) ag b2 λw K O b4 b5 b6=>?_;let⟨ca,cc⟩:=Jw al b6;rw[ca];have hlen:(xs++ [xv]).length=xs.length+1:=by simp
 have:=h w K O b4 ⟨wss++ [v.cells.toList],by rw[hlen,rX];simpa using b5,by simp[am],XZ am b0 ai⟩ cc;rw[hlen] at this;exact this
theorem UX{pp:Rp α}{a:Option Addr}{xs:List α}{xv:α}{m:Int}(O:Am pp E a c xs)(hm:ix xs m=some xv)
  (U:ops[i]?=some ⟨d,.indexAddr t x y,ty,p,af,g⟩) (hw:A3 L ops ⟨d,.indexAddr t x y,ty,p,af,g⟩=some true) (Y:BV b n ⟨d,.indexAddr t x y,ty,p,af,g⟩=true)
  (Z:ev L x=some (.slice a xs.length c)) (ac:ev L y=some (.int kd m)) (ag:P.underlying t=some (.slice e)) (ai:Bz P e=some pp.n)
  (h:∀bk o ws,pp.r E ws xv->At E bk o ws->JL J Q b n (AE L d (.pointer (some ⟨bk,o,none⟩))) ds (.inRegion ops rest::k) cs (Ak E H S)):
  JL J Q b n L ds (.inRegion ops (i::rest)::k) cs (Ak E H S):=by
 obtain⟨m,rfl,hm⟩:=FP hm;have aj:m<xs.length:=(dY.1 hm).1;obtain⟨aq,⟨rfl,_⟩ | ⟨bk,off,rfl,al⟩⟩:=O;simp at aj
 let⟨ws,am,ap⟩:=al m xv hm;refine Bp (v:=.pointer (some ⟨bk,off+m*pp.n,none⟩)) U hw Y (λρ K=>?_) (h bk _ ws am ap);have:=MY (P:=P) (s:=Ak E H S) (d:=d) (ty:=ty) (p:=p) (af:=af) (g:=g) ag ai (K x _ Z) (K y _ ac) ⟨by omega,by omega⟩;rw[EG rfl] at this;simpa using this
theorem At.Iy{bk o:Nat}{ws:Lv_}(h:At E bk o ws)(hj:ws[j]?=some w):(Ak E H S).cell? ⟨bk,o+j,none⟩=some w:=h.cell hj
theorem At.R9{bk o:Nat}{ws:Lv_}(h:At E bk o ws):∀j v,ws[j]?=some v->(Ak E H S).cell? (Addr.add ⟨bk,o,none⟩ j)=some v:=h.cells
theorem Bu(I:Env->St->Prop){c:Code}(K:∀L s,I L s->JL J Q b n L ds todo cs s)(h:(∀L s,I L s->JL J Q b n L ds todo cs s)->JL J Q b n L ds (.code c::todo) cs s):JL J Q b n L ds (.code c::todo) cs s:=h K
theorem Hh{K:List Nat}(l:List Nat)(I:Env->St->Prop)(O:∀L s,I L s->JL J Q b n L ds (.inRegion ops l::todo) cs s)(h:(∀L s,I L s->JL J Q b n L ds (.inRegion ops l::todo) cs s)->JL J Q b n L ds (.inRegion ops K::todo) cs s):JL J Q b n L ds (.inRegion ops K::todo) cs s:=h O
theorem Ub{c:Code}{body:β->Option (Bq β A)}{f:Nat}{O:β}{a:A}(U:iter body f O=some a)(I:Env->St->β->Prop)(Z:I L s O)
  (round:∀L s x,I L s x->(∀Y,body x=some (.done Y)->Y=a)->(∃st,body x=some st)->(∀L' s' x',I L' s' x'->body x=some (.more x')->JL J Q b n L' ds (.inLoop c::k) cs s')->JL J Q b n L ds (.code c:: .inLoop c::k) cs s):
  JL J Q b n L ds (.code (.loop c)::k) cs s:=by
 refine IV ?_
 induction f generalizing L s O with
 | zero=>cases U
 | succ f ac=>
  refine round L s O Z (λY h=>TF U h) (TG U) λL' s' x' ag hb=>JL.again (ac (TJ U hb) ag)
def AY(J:Judge P)(f:FuncId)(args:Lv_)(E:LH)(B:Seg)(R:Value->LH->Seg->Prop):Prop:=
 ∀H,Nd E H B->Fo J f args.toArray (mk E H B) (λv s'=>∃E' B',Le E E'/\R v E' B'/\Nd E' H B'/\s'=mk E' H B')
theorem AY.enter{f:FuncId}{c:Code}{vs:Lv_}{B:Seg}(O:P.funcs[f]?=some fn)(hb:fn.body=some c)(U:vs.length<=fn.ntmps)
  (h:∀(Q:Gs_) (K:Frame) (cs:Lf_) (H:LH),Au E H [B]->(∀v E' S' B',Le E E'->S'.flatten=B'->R v E' B'->Au E' H S'->J.ok Q (G (K.finish v) cs) (Ak E' H S'))->JL J Q (base f) fn.ntmps (G0 0 vs) [] [.code c] (K::cs) (Ak E H [B])):AY J f vs E B R:=λH Y=>
 Fo.enter O hb U λQ K cs Z=>by
  have ac:mk E H B=Ak E H [B]:=by unfold Ak;simp
  rw[ac];exact h Q K cs H (by unfold Au;simpa using Y) λv E' S' B' hle ag ai aj=>by
   subst ag;exact Z v _ ⟨E',S'.flatten,hle,ai,aj,rfl⟩
theorem AY.Ag{f:FuncId}{vs:Lv_}{B:Seg}{K:Value->LH->Seg->Prop}(h:AY J f vs E B R)(U:∀v E' B',Le E E'->R v E' B'->K v E' B'):AY J f vs E B K:=λH Y=>
 (h H Y).Ag λv s' ⟨E',B',O,Z,ac,ag⟩=>⟨E',B',O,U v E' B' O Z,ac,ag⟩
theorem Gu{H:LH}:∀{A B:List (Nat×Obj)},By (A++B) H=By A (By B H)
 | [],_=>rfl
 | (c,o)::A,B=>by
  funext x
  simp only[rh,By]
  split;rfl;rw[Gu]
theorem Ok{H:LH}{x:Nat}:∀{B:List (Nat×Obj)},(∀p∈B,p.1≠x)->By B H x=H x
 | [],_=>rfl
 | (c,u)::B,K=>by
  have O:x≠c:=λe=>K (c,u) (by simp) e.symm
  simp only[By,d7 O]
  exact Ok λp U=>K p (f9 _ U)
theorem Nd.front{A B:List (Nat×Obj)}(h:Nd E H (A++B)):Nd E (By B H) A:=by
 rw[Nd.iff] at h ⊢;obtain⟨K,U⟩:=h;rw[ru,rS] at K;refine⟨K.1,λq O=>⟨(U q (rt _ O)).1,?_⟩⟩;rw[Ok λr Y e=>K.2.2 q.1 (tp O) r.1 (tp Y) e.symm];exact(U q (rt _ O)).2
theorem Nd.glue{A B:List (Nat×Obj)}(h:Nd E (By B H) A)(U:Nd E H B):Nd E H (A++B):=by
 have Y:=U;rw[Nd.iff] at h U ⊢;rw[ru,rS];have key:∀q∈A,∀r∈B,q.1≠r.1:=λq K r O e=>by
  have:=(h.2 q K).2;rw[e] at this;let⟨i,hi⟩:=Y.mem (b:=r.1) (o:=r.2) O;rw[J6 Y hi] at this;cases this
 refine⟨⟨h.1,U.1,λx Z y ac e=>?_⟩,λq K=>?_⟩;obtain⟨q,K,rfl⟩:=q9.1 Z;obtain⟨r,O,rfl⟩:=q9.1 ac;exact key q K r O e
 .rcases ik.1 K with K | K
  .refine⟨(h.2 q K).1,?_⟩;have:=(h.2 q K).2
   rwa[Ok λr O e=>key q K r O e.symm] at this
  .exact U.2 q K
theorem T8{f:FuncId}{vs:Lv_}(j:Nat)
  (ag:AY J f vs E seg R) (ai:ops[i]?=some ⟨d,.call ⟨.value (.func f),args,ats⟩,ty,p,af,g⟩) (hw:A3 L ops ⟨d,.call ⟨.value (.func f),args,ats⟩,ty,p,af,g⟩=some true) (aj:((b.kind != .early)&&BA n d)=true) (hb:Ez P f=true)
  (al:evs L args.toList=some vs) (K:Au E H S) (O:S[j]?=some seg) (am:∀v E' seg',Le E E'->R v E' seg'->Au E' H (S.set j seg')->JL J Q b n (AE L d v) ds (.inRegion ops rest::k) cs (Ak E' H (S.set j seg'))):
  JL J Q b n L ds (.inRegion ops (i::rest)::k) cs (Ak E H S):=by
 have U:S.flatten.Perm (seg++(S.set j []).flatten):=(Cl (seg':=seg) O).1.trans f8;have Y:Nd E H (seg++(S.set j []).flatten):=Nd.perm K U;have ap:Ak E H S=mk E (By (S.set j []).flatten H) seg:=by
  rw[show Ak E H S=mk E H S.flatten from rfl,FN K U];unfold mk;rw[Gu]
 rw[ap];refine ZP ai hw aj hb al (ag _ (Nd.front Y)) ?_;rintro v s' ⟨E',B',hle,aq,aw,rfl⟩;have e2:mk E' (By (S.set j []).flatten H) B'=mk E' H (B'++(S.set j []).flatten):=by unfold mk;rw[Gu]
 have a0:Nd E H (S.set j []).flatten:=by
  have:=Y;rw[Nd.iff] at this ⊢;rw[ru,rS] at this;exact⟨this.1.2.1,λq a1=>this.2 q (rm _ a1)⟩
 refine VH V λ⟨w,a2⟩=>?_;have a3:Nd E' H (S.set j []).flatten:=a0.grow λx a4=>by
  have a5:=a2.d x a4;have a6:By B' (By (S.set j []).flatten H) x=none:=a5;exact(Ii a6).1
 have Z:Nd E' H (B'++(S.set j []).flatten):=Nd.glue aw a3;rw[e2];have ac:(B'++(S.set j []).flatten).Perm (S.set j B').flatten:=f8.trans (Cl O).2.symm;rw[FN Z ac];exact am v E' B' hle aq (Nd.perm Z ac)
theorem JS.call{f:FuncId}{vs:Lv_}
  (U:AY J f vs E [] R) (Y:ops[i]?=some ⟨d,.call ⟨.value (.func f),args,ats⟩,ty,p,af,g⟩) (hw:A3 L ops ⟨d,.call ⟨.value (.func f),args,ats⟩,ty,p,af,g⟩=some true) (Z:((b.kind != .early)&&BA n d)=true) (hb:Ez P f=true)
  (ac:evs L args.toList=some vs) (K:Au E H S) (ag:∀v E' seg',Le E E'->R v E' seg'->Au E' H (S++ [seg'])->JL J Q b n (AE L d v) ds (.inRegion ops rest::k) cs (Ak E' H (S++ [seg']))):
  JL J Q b n L ds (.inRegion ops (i::rest)::k) cs (Ak E H S):=by
 have ai:Ak E H S=Ak E H (S++ [[]]):=by unfold Ak;simp
 rw[ai];refine T8 S.length U Y hw Z hb ac (by unfold Au at K ⊢;rw[F2,qW];exact K) (by simp) λv E' seg' hle aj O=>?_;have e2:(S++ [[]]).set S.length seg'=S++ [seg']:=HT _ _ _ _;rw[e2] at O ⊢;exact ag v E' seg' hle aj O
theorem Il(K:S'.flatten=S.flatten)(O:Au E H S)(h:Au E H S'->JL J Q b n L ds todo cs (Ak E H S')):JL J Q b n L ds todo cs (Ak E H S):=by
 unfold Ak Au at*;rw[K] at h;exact h O
end
def Ld(P:Program)(t:TypeId)(a:Addr)(s:St)(v:Value):Prop:=lp P (loadVar t a) s (λu s'=>u=v/\s'=s) (λ_ _=>False)
theorem Ld.one{P:Program}{t:TypeId}{a:Addr}{s:St}{v:Value}(K:Es P t=some false)(h:s.cell? a=some v):Ld P t a s v:=S8 K h ⟨V,V⟩
theorem Ld.many{P:Program}{t:TypeId}{a:Addr}{s:St}{vs:Lv_}(K:Es P t=some true)(O:Bz P t=some vs.length)(h:∀j v,vs[j]?=some v->s.cell? (a.add j)=some v):Ld P t a s (.agg vs.toArray):=Tb K O h ⟨V,V⟩
def RV(P:Program)(L:Env)(s:St):List ResultVar->Lv_->Prop
 | [],[]=>True
 | .tmp t::rs,v::vs=>look L t=some v/\RV P L s rs vs
 | .cell a t::rs,v::vs=>(∃ad,look L a=some (.pointer (some ad))/\Ld P t ad s v)/\RV P L s rs vs
 | _,_=>False
def OI:Lv_->Value
 | [v]=>v
 | vs=>.tuple vs.toArray
theorem YE(vs:Lv_):(if h:vs.toArray.size=1 then vs.toArray[0] else Value.tuple vs.toArray)=OI vs:=by
 match vs with
 | []=>rfl
 | [v]=>rfl
 | a::b::c=>simp[OI]
theorem BK.list{P:Program}{f:FuncId}{n:Nat}{L:Env}{s:St}{rs:List ResultVar}{vs:Lv_}(Z:P.funcs[f]?=some fn)(ac:fn.results.toList=rs)(h:RV P L s rs vs):BK P f L n s (OI vs):=by
 refine⟨fn,Z,λT U=>?_⟩;unfold results;rw[ss,ac];have key:∀(rs:List ResultVar) (acc vs:Lv_) {Q:Lv_->St->Prop}{X:Halt->St->Prop},RV P L s rs vs->Q (acc.reverse++vs) s->lp P (List.mapM.loop (m:=Sem) (λr=>match r with
   | .tmp t=>pure (T.getD t undef)
   | .cell a t=>do loadVar t (← asAddr (T.getD a undef))) rs acc) s Q X:=by
  intro rs
  induction rs with
  | nil=>
   intro acc vs Q X h k;cases vs with
   | nil=>simp only[qW] at k;exact k
   | cons v vs=>cases h
  | cons r rs Y=>
   intro acc vs Q X h k;cases vs with
   | nil=>cases r<;>cases h
   | cons v vs=>
    cases r with
    | tmp t=>
     obtain⟨K,O⟩:=h;have:=U.at_ t v K;simp only[List.mapM.loop];rw[this];exact Y (v::acc) vs O (by simpa using k)
    | cell a t=>
     obtain⟨⟨ad,K,ag⟩,O⟩:=h;have:=U.at_ a _ K;simp only[List.mapM.loop];rw[this];refine AA _ _ (EP _ (show lp P (loadVar t ad) s _ _ from ag) ?_ (λ_ _ h=>h.elim));rintro u s' ⟨rfl,rfl⟩;exact Y (u::acc) vs O (by simpa using k)
 refine AA _ _ (AA (x:=List.mapM.loop (m:=Sem) _ rs []) (f:=λr=>pure r.toArray) ?_);refine key rs [] vs h ?_;simp only[List.reverse_nil,rG,lp,pure];exact⟨YE vs,trivial⟩
section
variable {g:Goroutine}
theorem DW(j:Nat)(Z:Au E H S)(U:S[j]?=some seg)(h:Au E H (S.set j [])->J.ok Q g (Ak E H (S.set j []))):J.ok Q g (Ak E H S):=by
 let⟨ac,K⟩:=Hu Z U;have ag:Nd E H ((S.set j []).flatten++ []):=by rw[qW];exact Lg.Nd.left K
 let⟨am,ai⟩:=Jw (seg':=[]) U ag;refine J.ghost (s₀:=Ak E H (S.set j [])) ⟨λ_ _ h=>h,λx o aj=>?_,λ_ _ h=>.inl h,V⟩ (h ai);have Y:By (S.set j []).flatten H x=some o:=aj;show(Ak E H S).H x=some o;rw[ac];show By ((S.set j []).flatten++seg) H x=some o;rw[show By ((S.set j []).flatten++seg) H=By (seg++(S.set j []).flatten) H from Tl K f8,Gu];by_cases hm:∃p∈seg,p.1=x;exfalso;obtain⟨p,O,e⟩:=hm;have al:=Nd.front (Nd.perm K f8);have:=((Nd.iff.1 al).2 p O).2;rw[e,Y] at this;cases this;rw[Ok λp O e=>hm ⟨p,O,e⟩];exact Y
end
variable{E0:LH}{K:Next->St->Prop}
section
variable {b:Frame}{n:Nat}
variable {x:Operand}{v:Value}{i:Nat}
theorem Q4{ρ:Operand->Value}:execOp ρ ⟨d,.buildSlice t sz ps,ty,p,af,g⟩=(do pure (Next.value (← Instr.buildSlice t sz (ps.map λ(j,x)=>(j,ρ x))))):=by
 simp only[execOp]
theorem Yh(v:Av_)(off:Nat)(c:Av_):v.zipIdx.foldl (λcs (x,j)=>cs.setIfInBounds (off+j) x) c=Bf c off v.toList:=by
 rw[← Array.foldl_toList,Array.toList_zipIdx];have key:∀(l:Lv_) (st:Nat) (c:Av_),List.foldl (λcs (p:Value×Nat)=>cs.setIfInBounds (off+p.2) p.1) c (l.zipIdx st)=Bf c (off+st) l:=by
  intro l
  induction l with
  | nil=>intro st c;rfl
  | cons x l K=>intro st c;simp only[ui,tt,Bf];rw[K];rfl
 exact key v.toList 0 c
def Lp(place:Nat->Option (Nat×Nat))(cells:Av_):List (Nat×Value)->Option (Av_)
 | []=>some cells
 | (i,v)::rest=>match place i with
  | none=>none
  | some (off,size)=>if v.cells.size=size/\off+v.cells.size<=cells.size then Lp place (Bf cells off v.cells.toList) rest else none
theorem fill_eq{place:Nat->Option (Nat×Nat)}:∀{vs:List (Nat×Value)}{cells:Av_},Instr.fill place cells vs=Lp place cells vs
 | [],_=>rfl
 | (i,v)::rest,cells=>by
  simp only[Instr.fill,Lp]
  cases place i with
  | none=>rfl
  | some q=>
   obtain⟨off,size⟩:=q
   simp only
   by_cases h:v.cells.size=size/\off+v.cells.size<=cells.size;rw[d0 h,d7 (by simp only[rO,sF,ne_eq];omega),fill_eq,Yh];rw[d7 h,d0 (by simp only[rO,sF,ne_eq];omega)]
theorem Ul{n:Nat}:∀(vs:Lv_) (st:Nat) (cells:Av_),(∀v∈vs,v.cells.size=n)->cells.size=(st+vs.length)*n->
  ∃U,Lp (λi=>some (i*n,n)) cells ((vs.zipIdx st).map λq=>(q.2,q.1))=some U/\U.toList=cells.toList.take (st*n)++(vs.map (·.cells.toList)).flatten
 | [],st,cells,_,K=>⟨cells,rfl,by simp only[ut,rE] at K;simp[← K,sa]⟩
 | v::vs,st,cells,Y,K=>by
  have O:=Y v (by simp)
  have hle:st*n+n<=cells.size:=by
   rw[K,q4];have:(st+1)*n<=(st+(vs.length+1))*n:=re _ (by omega);rw[rF] at this;exact this
  obtain⟨Z,ac,ag⟩:=Ul vs (st+1) (Bf cells (st*n) v.cells.toList) (λu hu=>Y u (f9 _ hu)) (by rw[MX,K,q4];congr 1;omega);refine⟨Z,?_,?_⟩;simp only[ui,r8,Lp];rw[d0 ⟨O,by omega⟩];exact ac;rw[ag,rF];have:=QI cells (st*n) v.cells.toList (by simp[O];omega);rw[show v.cells.toList.length=n by simp[O]] at this;rw[this];simp
def LD{α:Type}(pp:Rp α)(E:LH):List α->Lv_->Prop
 | [],[]=>True
 | x::xs,v::vs=>pp.r E v.cells.toList x/\LD pp E xs vs
 | _,_=>False
theorem LD.at{E:LH}{α:Type}{pp:Rp α}:∀{xs:List α}{vs:Lv_},LD pp E xs vs->∀(i:Nat) x v,xs[i]?=some x->vs[i]?=some v->pp.r E v.cells.toList x
 | [],_,_,_,_,_,h,_=>by simp at h
 | _::_,[],h,_,_,_,_,_=>h.elim
 | x::xs,v::vs,h,0,y,u,K,hu=>by simp at K hu;subst K hu;exact h.1
 | x::xs,v::vs,h,i+1,y,u,K,hu=>LD.at h.2 i y u (by simpa using K) (by simpa using hu)
theorem Wo{ρ:Operand->Value}(aq:Fz L ρ){pp:Rp α}(vs:Lv_){z:Value}(xs:List α)
  (aw:P.underlying t=some (.slice e)) (a0:Bz P e=some pp.n) (a1:zeroOf P e=some z) (a2:decide (0<sz*pp.n/\sz*pp.n<=2^24)=true)
  (a3:ps.toList.mapM (λq=>(ev L q.2).map λv=>(q.1,v))=some ((vs.zipIdx 0).map λq=>(q.2,q.1)))
  (U:vs.length=sz) (Y:xs.length=sz) (a4:LD pp E0 xs vs) (a5:Au E H S)
  (h:∀r seg,OL e pp E0 (some ⟨r,0,none⟩) sz seg xs->Au E H (S++ [seg])->K (.value (.slice (some ⟨r,0,none⟩) xs.length sz)) (Ak E H (S++ [seg]))):
  lp P (execOp ρ ⟨d,.buildSlice t sz ps,ty,p,af,g⟩) (Ak E H S) K (λ_ _=>False):=by
 have ai:=a4.at;have a6:(ps.map λ(j,x)=>(j,ρ x)).toList=(vs.zipIdx 0).map λq=>(q.2,q.1):=by
  have key:∀(l:List (Nat×Operand)) (vs:List (Nat×Value)),l.mapM (λq=>(ev L q.2).map λv=>(q.1,v))=some vs->l.map (λ(j,x)=>(j,ρ x))=vs:=by
   intro l
   induction l with
   | nil=>intro vs h;simp at h;subst h;rfl
   | cons q l Z=>
    intro vs h;simp only[tZ,bind] at h;cases ac:ev L q.2 with
    | none=>rw[ac] at h;simp at h
    | some w=>
     rw[ac] at h;simp only[rZ,Option.bind_some] at h;let⟨a7,a8,aj⟩:=bind_some h;simp at aj;subst aj;simp[Z a7 a8,aq _ _ ac]
  rw[tL];exact key _ _ a3
 have al:∀v∈vs,v.cells.size=pp.n:=λv O=>by
  let⟨i,hi⟩:=qZ.1 O;have a9:i<xs.length:=by rw[Y,← U];exact(dY.1 hi).1
  simpa using pp.len (ai i _ v (bI a9) hi)
 rw[Q4];refine AA _ _ ?_;unfold Instr.buildSlice;refine AA _ _ (CM aw ?_);refine AA _ _ (Fv a0 ?_);have bg:=sX a2;rw[d7 (by omega),d7 (by omega)];refine AA (x:=zeroValue e) _ (Ij a1 ?_);rw[IS,a6];obtain⟨cells,bb,ag⟩:=Ul vs 0 ((Array.range (sz*pp.n)).map (z.cells[· % z.cells.size]!)) al (by simp[U]);simp only[fill_eq,bb];simp only[sP,List.take_zero,rG] at ag;refine AA _ _ (Jo a5 λr am=>?_);rw[(FL am).1];have ap:cells.size=sz*pp.n:=by
  have:cells.toList.length=sz*pp.n:=by
   rw[ag];have:∀(vs:Lv_),(∀v∈vs,v.cells.size=pp.n)->(vs.map (·.cells.toList)).flatten.length=vs.length*pp.n:=by
    intro vs
    induction vs with
    | nil=>intro _;simp
    | cons v vs Z=>intro h;rw[r8,q1,qT,Z λw hw=>h w (f9 _ hw),q4,rF,uj];simp[h v (by simp)]
   rw[this vs al,U]
  simpa using this
 have:=h r [(r,.cells cells e (0,0))] ⟨vs.map (·.cells.toList),.inr ⟨r,cells,rfl,rfl,ap,by omega,by rw[← ag,sa (by simp[ap,Y])]⟩,by simp[U,Y],λi x ws be hw=>by
  rw[rf] at hw
  cases O:vs[i]? with
  | none=>rw[O] at hw;cases hw
  | some v=>rw[O] at hw;cases hw;exact ai i x v be O⟩ (FL am).2
 rw[Y] at this;exact this
theorem FO{pp:Rp α}(vs:Lv_){z:Value}(xs:List α)
  (K:ops[i]?=some ⟨d,.buildSlice t sz ps,ty,p,af,g⟩) (hw:A3 L ops ⟨d,.buildSlice t sz ps,ty,p,af,g⟩=some true) (O:BV b n ⟨d,.buildSlice t sz ps,ty,p,af,g⟩=true)
  (U:P.underlying t=some (.slice e)) (Y:Bz P e=some pp.n) (Z:zeroOf P e=some z) (ac:decide (0<sz*pp.n/\sz*pp.n<=2^24)=true)
  (ag:ps.toList.mapM (λq=>(ev L q.2).map λv=>(q.1,v))=some ((vs.zipIdx 0).map λq=>(q.2,q.1)))
  (ai:vs.length=sz) (aj:xs.length=sz) (al:LD pp E xs vs) (am:Au E H S)
  (h:∀r seg,OL e pp E (some ⟨r,0,none⟩) sz seg xs->Au E H (S++ [seg])->JL J Q b n (AE L d (.slice (some ⟨r,0,none⟩) xs.length sz)) ds (.inRegion ops rest::k) cs (Ak E H (S++ [seg]))):
  JL J Q b n L ds (.inRegion ops (i::rest)::k) cs (Ak E H S):=by
 exact JL.op K hw O λρ ap=>Wo ap vs xs U Y Z ac ag ai aj al am h
theorem OL.get{pp:Rp α}{a:Option Addr}{xs:List α}{m:Nat}{x:α}(Y:OL e pp E a c seg xs)(hm:xs[m]?=some x):
  ∃bk f ws,a=some ⟨bk,0,none⟩/\seg=[(bk,.cells f e (0,0))]/\pp.r E ws x/\(∀j w,ws[j]?=some w->f[m*pp.n+j]?=some w)/\(m+1)*pp.n<=f.size/\
   ∀(x':α) (ws':Lv_),pp.r E ws' x'->OL e pp E a c [(bk,.cells (Bf f (m*pp.n) ws') e (0,0))] (xs.set m x'):=by
 obtain⟨wss,Y,ai,Z⟩:=Y;have aj:m<xs.length:=(dY.1 hm).1;rcases Y with⟨ac,al,_⟩ | ⟨bk,f,ac,al,a2,am,ap⟩;omega
 have hw:wss[m]?=some wss[m]:=bI (by omega);have aq:=IX ai Z;have hle:(m+1)*pp.n<=xs.length*pp.n:=re _ aj;have a5:xs.length*pp.n<=c*pp.n:=re _ am;refine⟨bk,f,wss[m],ac,al,Z m x _ hm hw,λj w hj=>?_,by omega,λx' ws' aw=>?_⟩;have:=Lb aq hw j w hj;rw[ap,r4] at this;split at this;simpa using this;cases this
 .have a0:ws'.length=pp.n:=pp.len aw;refine⟨wss.set m ws',.inr ⟨bk,_,ac,V,by rw[MX];exact a2,by simpa using am,?_⟩,by simpa using ai,λi y us U hu=>?_⟩
  .simp only [qY];have key:∀(wss:List (Lv_)) (m:Nat) (hm:m<wss.length),(∀ws∈wss,ws.length=pp.n)->∀j,(wss.set m ws').flatten[j]?=if m*pp.n<=j/\j<(m+1)*pp.n then ws'[j - m*pp.n]? else wss.flatten[j]? :=by
    intro wss
    induction wss with
    | nil=>intro m hm;simp at hm
    | cons us wss ag=>
     intro m hm a1 j;have hu:us.length=pp.n:=a1 us (by simp);cases m with
     | zero=>
      simp only[sO,q1,sP,rl,true_and,sj,Nat.one_mul,sC];split;rename_i hj;rw[qO (by omega)];rename_i hj;rw[qK (by omega),qK (by omega),a0,hu]
     | succ m=>
      simp only[tB,q1];have K:(m+1)*pp.n=m*pp.n+pp.n:=rF _ _;have e2:(m+1+1)*pp.n=(m+1)*pp.n+pp.n:=rF _ _;rcases f7 j us.length with hj | hj;rw[qO hj,qO hj,d7 (by omega)];rw[qK hj,qK hj,ag m (by simpa using hm) (λws a3=>a1 ws (f9 _ a3))];by_cases O:m*pp.n<=j - us.length/\j - us.length<(m+1)*pp.n;rw[d0 O,d0 (by omega)];congr 1;omega;rw[d7 O,d7 (by omega)]
   have a4:∀(vs:Lv_) (c:Av_) (off:Nat),off+vs.length<=c.size->∀j,(Bf c off vs)[j]?=if off<=j/\j<off+vs.length then vs[j - off]? else c[j]? :=by
    intro vs
    induction vs with
    | nil=>intro c off _ j;simp[Bf];omega
    | cons w vs ag=>
     intro c off O j;simp only[Bf,q4] at*;rw[ag _ _ (by simp;omega)];by_cases K:j=off;subst K;rw[d7 (by omega),d0 (by omega),ti,rR,qJ (by omega)]
     .by_cases e2:off+1<=j/\j<off+1+vs.length
      .rw [d0 e2,d0 (by omega)];have:j - off=(j - (off+1))+1:=by omega
       rw[this];simp
      .rw [d7 e2,d7 (by omega),f6 (by omega)]
   apply r7;intro j;have K:(m+1)*pp.n=m*pp.n+pp.n:=rF _ _;have t1:(Bf f (m*pp.n) ws').toList[j]?=(Bf f (m*pp.n) ws')[j]? :=ro;have t2:f.toList[j]?=f[j]? :=ro;rw[key wss m (by omega) aq,r4,t1,a4 ws' f (m*pp.n) (by omega),ap,r4,t2,a0];by_cases O:m*pp.n<=j/\j<(m+1)*pp.n;rw[d0 O,d0 (by omega),d0 (by omega)];rw[d7 O,d7 (show ¬(m*pp.n<=j/\j<m*pp.n+pp.n) by omega)]
  .rw [rj] at U hu;by_cases K:m=i;subst K;rw[d0 rfl,d0 aj] at U;rw[d0 rfl,d0 (by omega)] at hu;cases U;cases hu;exact aw;rw[d7 K] at hu U;exact Z i y us U hu
theorem HS{pp:Rp α}{a:Option Addr}{xs:List α}{xv:α}{m:Int}(j:Nat)(O:OL e pp E a c seg xs)(hm:ix xs m=some xv)(U:S[j]?=some seg)
  (Y:ops[i]?=some ⟨d,.indexAddr t x y,ty,p,af,g⟩) (hw:A3 L ops ⟨d,.indexAddr t x y,ty,p,af,g⟩=some true) (Z:BV b n ⟨d,.indexAddr t x y,ty,p,af,g⟩=true)
  (ac:ev L x=some (.slice a xs.length c)) (ag:ev L y=some (.int kd m)) (ai:P.underlying t=some (.slice e)) (aj:Bz P e=some pp.n)
  (h:∀bk o f ws,S[j]?=some [(bk,.cells f e (0,0))]->pp.r E ws xv->(∀j w,ws[j]?=some w->f[o+j]?=some w)->o+pp.n<=f.size->(∀(x':α) (ws':Lv_),pp.r E ws' x'->OL e pp E a c [(bk,.cells (Bf f o ws') e (0,0))] (xs.set m.toNat x'))->o=m.toNat*pp.n->a=some ⟨bk,0,none⟩->
   JL J Q b n (AE L d (.pointer (some ⟨bk,o,none⟩))) ds (.inRegion ops rest::k) cs (Ak E H S)):
  JL J Q b n L ds (.inRegion ops (i::rest)::k) cs (Ak E H S):=by
 obtain⟨m,rfl,hm⟩:=FP hm;have a1:m<xs.length:=(dY.1 hm).1;obtain⟨bk,f,ws,rfl,rfl,al,am,ap,aq⟩:=OL.get O hm;have aw:(m+1)*pp.n=m*pp.n+pp.n:=rF _ _;have a0:m*pp.n+pp.n<=f.size:=by rw[← aw];exact ap
 refine Bp (v:=.pointer (some ⟨bk,m*pp.n,none⟩)) Y hw Z (λρ K=>?_) (h bk (m*pp.n) f ws U al am a0 (by simpa using aq) (by simp) V);have:=MY (P:=P) (s:=Ak E H S) (d:=d) (ty:=ty) (p:=p) (af:=af) (g:=g) ai aj (K x _ ac) (K y _ ag) ⟨by omega,by omega⟩;rw[EG rfl] at this;simpa using this
end
section
variable {b:Frame}{n:Nat}
variable {x:Operand}{v:Value}{i:Nat}
theorem JS.perm(K:S.flatten.Perm S'.flatten)(O:Au E H S)(h:Au E H S'->JL J Q b n L ds todo cs (Ak E H S')):JL J Q b n L ds todo cs (Ak E H S):=by
 have U:Au E H S':=Nd.perm O K;rw[show Ak E H S=Ak E H S' from FN O K];exact h U
theorem Fh{A B:Seg}(j:Nat)(K:S[j]?=some (A++B))(O:Au E H S)(h:Au E H (S.set j A++ [B])->JL J Q b n L ds todo cs (Ak E H (S.set j A++ [B]))):JL J Q b n L ds todo cs (Ak E H S):=by
 refine JS.perm ?_ O h;have U:=(Cl (seg':=A) K).1;have Y:=(Cl (seg':=A) K).2;rw[F2];refine U.trans ?_;have Z:=Y.symm.append_right B
 rwa[qI] at Z
theorem JS.swap{A B:Seg}(j l:Nat)(hj:S[j]?=some A)(O:S[l]?=some B)(U:(j==l)=false)(Y:Au E H S)(h:Au E H ((S.set j B).set l A)->JL J Q b n L ds todo cs (Ak E H ((S.set j B).set l A))):JL J Q b n L ds todo cs (Ak E H S):=by
 have K:j≠l:=by simpa using U
 refine JS.perm ?_ Y h;have a1:=(Cl (seg':=B) hj).1;have Z:(S.set j [])[l]?=some B:=by rw[qU K];exact O
 have ac:=(Cl (seg':=A) Z).1;have ag:((S.set j B).set l A)[l]?=some A:=by
  have:l<(S.set j B).length:=by rw[qY];exact(dY.1 O).1
  rw[rj,d0 rfl,d0 this]
 have c1:=(Cl (seg':=A) ag).1;rw[sw] at c1;have ai:((S.set j B).set l [])[j]?=some B:=by
  have:j<S.length:=(dY.1 hj).1;rw[qU (q2 K)];simp[this]
 have c2:=(Cl (seg':=B) ai).1;have aj:(((S.set j B).set l []).set j [])=((S.set j []).set l []):=by
  rw[sW _ _ K,sw,sW _ _ K.symm]
 rw[aj] at c2;exact a1.trans ((ac.append_right A).trans ((c2.symm.append_right A).trans c1.symm))
theorem Em{bk:Nat}{c:Av_}{f:Nat×Nat}{vs:Lv_}(j:Nat)(K:Au E H S)(hj:S[j]?=some ((bk,.cells c e f)::seg))(O:(c.toList.drop off).take vs.length=vs):∀i v,vs[i]?=some v->(Ak E H S).cell? (Addr.add ⟨bk,off,none⟩ i)=some v:=
 Yx K hj λi v hi=>by
  have U:i<vs.length:=(dY.1 hi).1
  rw[← O,List.getElem?_take_of_lt U,t8,ro] at hi
  exact hi
theorem M0(vs:Lv_):∀(c:Av_) (off:Nat),off+vs.length<=c.size->∀j,(Bf c off vs)[j]?=if off<=j/\j<off+vs.length then vs[j - off]? else c[j]? :=by
 induction vs with
 | nil=>intro c off _ j;simp[Bf];omega
 | cons w vs K=>
  intro c off U j;simp only[Bf,q4] at*;rw[K _ _ (by simp;omega)];by_cases O:j=off;subst O;rw[d7 (by omega),d0 (by omega),ti,rR,qJ (by omega)]
  .by_cases e2:off+1<=j/\j<off+1+vs.length
   .rw [d0 e2,d0 (by omega)];have:j - off=(j - (off+1))+1:=by omega
    rw[this];simp
   .rw [d7 e2,d7 (by omega),f6 (by omega)]
end
theorem elim_inl{K:Type}{f:α->Option K}{g:β->Option K}{x:α}{r:K}(h:Sum.elim f g (.inl x)=some r):f x=some r:=h
theorem elim_inr{K:Type}{f:α->Option K}{g:β->Option K}{x:β}{r:K}(h:Sum.elim f g (.inr x)=some r):g x=some r:=h
def room{α:Type}(xs:List α)(x:α):Option (List α):=if xs.length+1<=2^40 then some (xs++ [x]) else none
theorem T1{xs ys:List α}{x:α}(h:room xs x=some ys):xs.length+1<=2^40/\ys=xs++ [x]:=by
 unfold room at h;split at h;rename_i hb;exact⟨hb,(ep h).symm⟩;cases h
def Qq(a b:Int):Option Int:=if b=0 then none else some (a.tmod b)
def Qb(a b:Nat):Option Nat:=if b=0 then none else some (a%b)
section
variable {x:Operand}{v:Value}{m:Int}{a b:Nat}
theorem bZ(K:ρ x=iV m)(O:ρ y=iV m')(h:Qq m m'=some r):Yl P ⟨d,.binOp .rem t x y u,ty,p,af,g⟩ ρ s (iV r):=by
 unfold Qq at h;split at h;cases h;rename_i U;cases h;exact Yl.rem K O U
theorem aU{r:Nat}(K:ρ x=.int .u64 (a:Int))(O:ρ y=.int .u64 (b:Int))(h:Qb a b=some r):Yl P ⟨d,.binOp .rem t x y u,ty,p,af,g⟩ ρ s (.int .u64 (r:Int)):=by
 unfold Qb at h;split at h;cases h;rename_i U;cases h;exact dk K O U
theorem Yl.min2(K:ρ x=iV m)(O:ρ y=iV m'):Yl P ⟨d,.call ⟨.builtin .min,#[x,y],ats⟩,ty,p,af,g⟩ ρ s (iV (min m m')):=by
 have e:(if m'<m then m' else m)=min m m':=by split<;>omega
 simp[Yl,execOp,lp,pure,bind,Sem.bind,K,O,resolve,invoke,builtin,Builtin.min_,Builtin.min2,e]
theorem Yl.max2(K:ρ x=iV m)(O:ρ y=iV m'):Yl P ⟨d,.call ⟨.builtin .max,#[x,y],ats⟩,ty,p,af,g⟩ ρ s (iV (max m m')):=by
 have e:(if m<m' then m' else m)=max m m':=by split<;>omega
 simp[Yl,execOp,lp,pure,bind,Sem.bind,K,O,resolve,invoke,builtin,Builtin.max_,Builtin.max2,e]
end
def ME(P:Program):List Field->List (Nat×Nat)->Prop
 | f::K,(o,n)::ps=>f.offset=o/\Bz P f.type=some n/\ME P K ps
 | [],[]=>True
 | _,_=>False
theorem ME.mapM{P:Program}:∀{K:List Field}{ps:List (Nat×Nat)},ME P K ps->K.mapM (λf=>(Bz P f.type).map λn=>(f.offset,n))=some ps
 | [],[],_=>rfl
 | [],_::_,h=>h.elim
 | _::_,[],h=>h.elim
 | f::K,(o,n)::ps,h=>by
  obtain⟨O,U,Y⟩:=h
  simp only[tZ,bind,U,rZ,Option.bind_some,ME.mapM Y,O];rfl
theorem Q2{L:Env}{ρ:Operand->Value}(h:Fz L ρ):∀{l:List (Nat×Operand)}{vs:List (Nat×Value)},l.mapM (λq=>(ev L q.2).map λv=>(q.1,v))=some vs->l.map (λ(j,x)=>(j,ρ x))=vs
 | [],vs,e=>by simp at e;subst e;rfl
 | q::l,vs,e=>by
  simp only[tZ,bind] at e
  cases K:ev L q.2 with
  | none=>rw[K] at e;simp at e
  | some w=>
   rw[K] at e
   simp only[rZ,Option.bind_some] at e
   let⟨Y,U,O⟩:=bind_some e
   simp at O;subst O
   simp[Q2 h U,h _ _ K]
theorem Dk{P:Program}{s:St}{ρ:Operand->Value}{L:Env}{d:Option Tmp}{t ty:TypeId}{p:String}{af:Ae_}{g:On_}{z:Value}{K:Array Field}{vs:List (Nat×Value)}{cells:Av_}(places:List (Nat×Nat))(h:Fz L ρ)(O:zeroOf P t=some z)(U:P.underlying t=some (.struct K))(Y:ME P K.toList places)
  (Z:ps.toList.mapM (λq=>(ev L q.2).map λv=>(q.1,v))=some vs) (ac:Lp (places.toArray[·]?) z.cells vs=some cells):Yl P ⟨d,.build t ps,ty,p,af,g⟩ ρ s (.agg cells):=
 Yl.build (places:=places.toArray) O U (by simpa using Y.mapM) (Q2 h Z) (by rw[fill_eq];exact ac)
theorem OL.again{e:TypeId}{pp:Rp α}{E:LH}{a:Option Addr}{bk o:Nat}{f:Av_}{xs:List α}{m:Int}{x:α}(O:OL e pp E a c [(bk,.cells f e (0,0))] xs)(hm:ix xs m=some x)(U:o=m.toNat*pp.n):
  ∃ws,pp.r E ws x/\(∀j w,ws[j]?=some w->f[o+j]?=some w)/\o+pp.n<=f.size/\∀(x':α) (ws':Lv_),pp.r E ws' x'->OL e pp E a c [(bk,.cells (Bf f o ws') e (0,0))] (xs.set m.toNat x'):=by
 obtain⟨m,rfl,hm⟩:=FP hm;let⟨al,am,ws,ap,K,Y,Z,ac,ag⟩:=OL.get O hm;simp only[tu,d9,Obj.cells.injEq,uk] at K;obtain⟨rfl,rfl⟩:=K;have ai:(m+1)*pp.n=m*pp.n+pp.n:=rF _ _;have aj:o=m*pp.n:=by simpa using U
 subst aj;exact⟨ws,Y,Z,by rw[← ai];exact ac,by simpa using ag⟩
section
variable {b:Frame}{n:Nat}
variable {x:Operand}{v:Value}{i:Nat}
theorem JS.app{pp:Rp α}{t1 t2:TypeId}{a:Option Addr}{xs ys:List α}{xv:α}{id:Nat}{O:TypeId}{U:String}{Y:Ae_}{z:Value}(j:Nat)(ai:room xs xv=some ys)
  (aj:ops[i]?=some ⟨some d1,.buildSlice t2 1 #[(0,y)],O,U,Y,g'⟩) (hw:A3 L ops ⟨some d1,.buildSlice t2 1 #[(0,y)],O,U,Y,g'⟩=some true) (al:BV b n ⟨some d1,.buildSlice t2 1 #[(0,y)],O,U,Y,g'⟩=true)
  (am:ops[id]?=some ⟨d,.call ⟨.builtin .append,#[x,.tmp d1],ats⟩,ty,p,af,g⟩) (ap:∀w,A3 (AE L (some d1) w) ops ⟨d,.call ⟨.builtin .append,#[x,.tmp d1],ats⟩,ty,p,af,g⟩=some true) (aq:BV b n ⟨d,.call ⟨.builtin .append,#[x,.tmp d1],ats⟩,ty,p,af,g⟩=true)
  (aw:∀w,ev (AE L (some d1) w) x=some (.slice a xs.length c)) (a0:ev L y=some v) (a1:ats[0]?=some t) (a2:ats[1]?=some t1) (a3:P.underlying t=some (.slice e)) (a4:P.underlying t1=some (.slice e)) (a5:P.underlying t2=some (.slice e)) (a6:Bz P e=some pp.n) (hb:Ga P e=some sz) (a7:zeroOf P e=some z) (a8:z.cells.size=pp.n)
  (a9:0<sz) (bb:sz<=64) (be:0<pp.n) (bg:pp.n<=64) (bi:OL e pp E a c seg xs) (bo:pp.r E v.cells.toList xv) (bv:Au E H S) (bw:S[j]?=some seg)
  (h:∀w ac ag seg',OL e pp E ac ag seg' ys->Au E H (S.set j seg')->JL J Q b n (AE (AE L (some d1) w) d (.slice ac ys.length ag)) ds (.inRegion ops rest::k) cs (Ak E H (S.set j seg'))):
  JL J Q b n L ds (.inRegion ops (i::id::rest)::k) cs (Ak E H S):=by
 obtain⟨bx,rfl⟩:=T1 ai;exact Ti j aj hw al am ap aq aw a0 a1 a2 a3 a4 a5 a6 hb a7 a8 a9 bb be bg bx bi bo bv bw h
theorem BF(K:S=S')(O:Au E H S)(h:Au E H S'->JL J Q b n L ds todo cs (Ak E H S')):JL J Q b n L ds todo cs (Ak E H S):=by
 subst K;exact h O
theorem TM(K:Au E H S)(h:Au E H (S++ [[]])->JL J Q b n L ds todo cs (Ak E H (S++ [[]]))):JL J Q b n L ds todo cs (Ak E H S):=
 Il (S':=S++ [[]]) (by rw[F2,qW]) K h
end
theorem Fo.Ly{P:Program}{J:Judge P}{f:FuncId}{args:Av_}{s:St}{R:Value->St->Prop}(h:Fo J f args s R)(U:∀v s',R v s'->s'.q=false):Fo J f args s (λv s'=>R v s'/\∃w,Fits s' w):=λQ c cs Y=>
 h Q c cs λv s' K=>by
  by_cases O:∃w,Fits s' w;exact Y v s' ⟨K,O⟩;exact J.step ⟨V,λw f=>absurd ⟨w,f⟩ O,λe=>by have:=U v s' K;subst e;cases this⟩
def AH(l:List Nat):Nat->Bool:=λx=>l.contains x
variable{oi:Oper}
section
variable {b:Frame}{n m fuel:Nat}
variable {x:Operand}{v:Value}{i:Nat}
def G1(ops:Ao_)(listed:Array Bool)(m i:Nat):Bool:=match ops[i]? with
 | some oi=>decide (i<m)&&Region.noSelect ops&& !EJ oi.op&&Jv ops listed i oi&&Is ops listed&&listed.size==ops.size&&(Region.ready .any ops listed).contains i
 | none=>false
theorem au(m:Nat){id:Nat}(hm:P.follows .mixedOrders=true)(K:(b.kind != .early)=true)
  (O:ER ops m=true) (h:ER ops m=true->AQ J Q b n ds ops k cs m DJ ops.size (Array.replicate ops.size false) L (Ak E H S)):JL J Q b n L ds (.code (.region id ops true)::k) cs (Ak E H S):=
 Rf m DJ V hm K (h O)
theorem TK{i:Nat}(hi:ops[i]?=some oi)(K:G1 ops listed m i=true):decide (i<m)=true/\Region.noSelect ops=true/\(!EJ oi.op)=true/\Jv ops listed i oi=true/\Is ops listed=true/\(listed.size==ops.size)=true/\(Region.ready .any ops listed).contains i=true:=by
 simp only[G1,hi,eM] at K;obtain⟨⟨⟨⟨⟨⟨O,U⟩,Y⟩,Z⟩,ac⟩,ag⟩,ai⟩:=K;exact⟨O,U,Y,Z,ac,ag,ai⟩
theorem JG.val(i:Nat)(hi:ops[i]?=some oi)(K:ER ops m=true)(O:G1 ops listed m i=true)(U:s.q=false)
  (hw:A3 L ops oi=some true) (Y:BA n oi.dst=true) (Z:∀ρ,Fz L ρ->∀s':St,(∀x o,(BE D s).E x=some o->s'.E x=some o)->Yl P oi ρ s' v)
  (h:AQ J Q b n ds ops k cs m D fuel (Bs listed i) (AE L oi.dst v) s):AQ J Q b n ds ops k cs m D (fuel+1) listed L s:=
 let ⟨ac,ag,ai,aj,al,am,ap⟩:=TK hi O
 Y6 hi ac K ag ai aj al am ap U hw Y (λρ aq s' _ aw=>Z ρ aq s' aw) h
theorem jb(i:Nat)(hi:ops[i]?=some oi)(K:ER ops m=true)(O:G1 ops listed m i=true)(U:s.q=false)
  (hw:A3 L ops oi=some false) (Y:BA n oi.dst=true)
  (h:AQ J Q b n ds ops k cs m D fuel (Bs listed i) (AE L oi.dst undef) s):AQ J Q b n ds ops k cs m D (fuel+1) listed L s:=
 let ⟨Z,ac,ag,ai,aj,al,am⟩:=TK hi O
 Zf hi Z K ac ag ai aj al am U hw Y h
theorem gd{pp:Rp α}{a:Option Addr}{xs:List α}{xv:α}{K:Int}(i:Nat)(Y:Am pp E a c xs)(O:ix xs K=some xv)
  (Z:ops[i]?=some ⟨d,.indexAddr t x y,ty,p,af,g⟩) (ac:ER ops m=true) (ag:G1 ops listed m i=true) (ai:s.q=false)
  (hw:A3 L ops ⟨d,.indexAddr t x y,ty,p,af,g⟩=some true) (aj:BA n d=true)
  (al:ev L x=some (.slice a xs.length c)) (am:ev L y=some (.int kd K)) (ap:P.underlying t=some (.slice e)) (aq:Bz P e=some pp.n)
  (h:∀bk o ws,pp.r E ws xv->At E bk o ws->AQ J Q b n ds ops k cs m D fuel (Bs listed i) (AE L d (.pointer (some ⟨bk,o,none⟩))) s):
  AQ J Q b n ds ops k cs m D (fuel+1) listed L s:=by
 obtain⟨K,rfl,O⟩:=FP O;have aw:K<xs.length:=(dY.1 O).1;obtain⟨a3,⟨rfl,_⟩ | ⟨bk,off,rfl,a0⟩⟩:=Y;simp at aw
 let⟨ws,a1,a2⟩:=a0 K xv O;refine JG.val (v:=.pointer (some ⟨bk,off+K*pp.n,none⟩)) i Z ac ag ai hw aj (λρ U s' _=>?_) (h bk _ ws a1 a2);have:=MY (P:=P) (s:=s') (d:=d) (ty:=ty) (p:=p) (af:=af) (g:=g) ap aq (U x _ al) (U y _ am) ⟨by omega,by omega⟩;rw[EG rfl] at this;simpa using this
theorem JG.call{f:FuncId}{vs:Lv_}(Y:AY J f vs E [] R)(Z:Region.ready .any ops listed=[i])
  (ac:ops[i]?=some ⟨d,.call ⟨.value (.func f),args,ats⟩,ty,p,af,g⟩) (ag:BA n d=true) (hw:A3 L ops ⟨d,.call ⟨.value (.func f),args,ats⟩,ty,p,af,g⟩=some true) (hb:Ez P f=true) (ai:evs L args.toList=some vs) (aj:Au E H S)
  (al:∀v E' seg',Le E E'->R v E' seg'->Au E' H (S++ [seg'])->AQ J Q b n ds ops k cs m DJ fuel (Bs listed i) (AE L d v) (Ak E' H (S++ [seg']))):
  AQ J Q b n ds ops k cs m DJ (fuel+1) listed L (Ak E H S):=by
 have am:=Fo.Ly (Y (By S.flatten H) trivial) (by rintro v s' ⟨E',B',_,_,_,rfl⟩;rfl);refine AQ.call V Z ac ag hw hb ai am ?_;rintro v a3 ⟨⟨E',B',hle,ap,aq,rfl⟩,w,aw⟩;have e2:mk E' (By S.flatten H) B'=mk E' H (B'++S.flatten):=by unfold mk;rw[Gu]
 have a0:Nd E' H S.flatten:=Nd.grow aj λx K=>by
  have a1:=aw.d x K;have a2:By B' (By S.flatten H) x=none:=a1;exact(Ii a2).1
 have O:Nd E' H (B'++S.flatten):=Nd.glue aq a0;have U:(B'++S.flatten).Perm (S++ [B']).flatten:=by rw[F2];exact f8
 rw[e2,FN O U];exact⟨V,λx o K=>hle x o K,al v E' B' hle ap (Nd.perm O U)⟩
end
theorem Pn{E H:LH}{S:List Seg}{bk:Nat}{o:Obj}(K:Au E H S)(hj:S[j]?=some ((bk,o)::seg)):E bk=none:=by
 have hm:(bk,o)∈S.flatten:=sJ.2 ⟨_,qL hj,by simp⟩;exact((Nd.iff.1 K).2 _ hm).1
def Fx{α:Type}(n:Int)(z:α):Option (List α):=if 0<=n/\n<=2^20 then some (List.replicate n.toNat z) else none
def CZ{α:Type}(xs ys:List α):Option (List α):=if xs.length+ys.length<=2^40 then some (xs++ys) else none
def Jc{α:Type}(xs:List α)(lo hi:Int):Option (List α):=if 0<=lo/\lo<=hi/\hi<=xs.length then some ((xs.take hi.toNat).drop lo.toNat) else none
section
variable {x:Operand}{v:Value}{m:Int}{a b:Nat}
end
variable {L':Env}
variable{ax:Option Addr}{cx:Nat}
section
variable {b:Frame}{n:Nat}
variable {x:Operand}{v:Value}{i:Nat}
theorem Zj{ρ:Operand->Value}:execOp ρ ⟨d,.makeSlice t x y,ty,p,af,g⟩=(do pure (Next.value (← Instr.makeSlice t (ρ x) (ρ y)))):=by
 simp only[execOp]
theorem QM{α:Type}(w:List α):∀m:Nat,((List.replicate m w).flatten).length=m*w.length
 | 0=>by simp
 | m+1=>by rw[sI,q1,qT,QM w m,rF,uj]
theorem aG(z:Av_)(K:0<z.size):∀m:Nat,((Array.range (m*z.size)).map (z[· % z.size]!)).toList=(List.replicate m z.toList).flatten:=by
 intro m;apply r7;intro j;simp only[tL,Array.toList_range,rf];by_cases hj:j<m*z.size
 .rw [tq hj];have U:j/z.size<m:=(Nat.div_lt_iff_lt_mul K).2 hj;have O:j%z.size<z.size:=tJ _ K;have hw:(List.replicate m z.toList)[j/z.size]?=some z.toList:=by simp[U]
  have:=Lb (n:=z.size) (wss:=List.replicate m z.toList) (λws Y=>by rw[sD Y];simp) hw (j%z.size) z[j%z.size] (by simp[O]);rw[show j/z.size*z.size+j%z.size=j from by rw[uJ];exact Nat.div_add_mod _ _] at this;rw[this];simp[O]
 .have hlen:((List.replicate m z.toList).flatten).length=m*z.size:=by rw[QM];simp
  rw[rb (by simpa using hj),rb (by rw[hlen];omega)];rfl
theorem JS.make{pp:Rp α}{z:Value}{Z:α}{m:Int}{xs:List α}(U:Fx m Z=some xs)
  (ap:ops[i]?=some ⟨d,.makeSlice t x y,ty,p,af,g⟩) (hw:A3 L ops ⟨d,.makeSlice t x y,ty,p,af,g⟩=some true) (aq:BV b n ⟨d,.makeSlice t x y,ty,p,af,g⟩=true)
  (aw:ev L x=some (iV m)) (Y:ev L y=some (iV m)) (a0:P.underlying t=some (.slice e)) (a1:Bz P e=some pp.n) {O:Nat}(hb:Ga P e=some O) (bg:O<=64) (a2:zeroOf P e=some z) (bi:0<pp.n) (ac:pp.r E z.cells.toList Z) (a3:Au E H S)
  (h:∀r seg,OL e pp E (some ⟨r,0,none⟩) xs.length seg xs->Au E H (S++ [seg])->JL J Q b n (AE L d (.slice (some ⟨r,0,none⟩) xs.length xs.length)) ds (.inRegion ops rest::k) cs (Ak E H (S++ [seg]))):
  JL J Q b n L ds (.inRegion ops (i::rest)::k) cs (Ak E H S):=by
 unfold Fx at U;split at U
 rotate_left
 .cases U
 rename_i hm;cases U;refine JL.op ap hw aq λρ ag=>?_;rw[Zj,ag x _ aw,ag y _ Y];refine AA _ _ ?_;unfold Instr.makeSlice;refine AA _ _ (CM a0 ?_);simp only[asInt,IS];let⟨inf,a4,a5⟩:=Q3 hb;refine AA (x:=typeInfo e) _ (K9 a4 ?_);simp only[a5,Kz (show -9223372036854775808<=m/\m<=9223372036854775807 by omega)];have bo:(O:Int)*m<=64*2^20:=by
  have ai:(O:Int)*m<=64*m:=Int.mul_le_mul_of_nonneg_right (by omega) hm.1;omega
 have a6:((decide (m<0) || decide ((O:Int)*m>2^48)) || decide (m<0) || decide (m>m))=false:=by
  simp only[Bool.or_eq_false_iff,decide_eq_false_iff_not];omega
 rw[a6];simp only[qP,rr];refine AA (x:=askRoom _) _ ?_;have a7:∀{Q:Unit->St->Prop}{X:Halt->St->Prop}(w:Nat),Q () (Ak E H S)->lp P (askRoom w) (Ak E H S) Q X:=by
  intro Q X w aj;unfold askRoom;split;exact⟨.inl ⟨V,V⟩,aj⟩;exact aj
 refine a7 _ (AA (x:=Go.sizeOf e) _ (Fv a1 ?_));have al:z.cells.size=pp.n:=by simpa using pp.len ac
 have fin:∀K:Av_,((Array.range (m.toNat*pp.n)).map (K[· % K.size]!)).toList=(List.replicate m.toNat z.cells.toList).flatten->lp P (do let a ← newRow e ((Array.range (m.toNat*pp.n)).map (K[· % K.size]!));pure (Value.slice (some a) m.toNat m.toNat)) (Ak E H S) (λa s'=>lp P (pure (Next.value a)) s' (λa8 s'=>match a8 with
   | .value v=>JL J Q b n (AE L d v) ds (.inRegion ops rest::k) cs s'
   | .skip=>JL J Q b n (AE L d undef) ds (.inRegion ops rest::k) cs s'
   | _=>False) (λ_ _=>False)) (λ_ _=>False):=by
  intro K a9;refine AA _ _ (Jo a3 λr am=>?_);rw[(FL am).1];have bv:((Array.range (m.toNat*pp.n)).map (K[· % K.size]!)).size=m.toNat*pp.n:=by simp
  have:=h r _ ⟨List.replicate m.toNat z.cells.toList,.inr ⟨r,_,rfl,rfl,by simp,by simp,by
   rw[a9,sa (by rw[QM];simp[al])]⟩,by simp,λi y us Y hu=>by
    have:=qL Y;have bb:=sD this
    have:=qL hu;have e2:=sD this
    subst bb e2;exact ac⟩ (FL am).2
  simp only[sf] at this;exact this
 split
 .rename_i be;have ai:m.toNat=0:=by rcases Nat.mul_eq_zero.1 be with h | h<;>omega
  exact fin #[] (by simp[ai])
 .refine AA (x:=zeroValue e) _ (Ij a2 ?_);refine fin z.cells ?_;rw[← al];exact aG z.cells (by omega) _
theorem Mk{pp:Rp α}(O:ops[i]?=some ⟨d,.buildSlice t 0 #[],ty,p,af,g⟩)(hw:A3 L ops ⟨d,.buildSlice t 0 #[],ty,p,af,g⟩=some true)(U:BV b n ⟨d,.buildSlice t 0 #[],ty,p,af,g⟩=true)
  (Y:P.underlying t=some (.slice e)) (Z:Bz P e=some pp.n) (ac:Au E H S)
  (h:∀r seg,OL e pp E (some ⟨r,0,none⟩) 0 seg []->Au E H (S++ [seg])->JL J Q b n (AE L d (.slice (some ⟨r,0,none⟩) 0 0)) ds (.inRegion ops rest::k) cs (Ak E H (S++ [seg]))):
  JL J Q b n L ds (.inRegion ops (i::rest)::k) cs (Ak E H S):=by
 refine JL.op O hw U λρ ai=>?_;rw[Q4];refine AA _ _ ?_;unfold Instr.buildSlice;refine AA _ _ (CM Y ?_);refine AA _ _ (Fv Z ?_);rw[d7 (by omega),d0 (by omega)];refine AA (x:=pure #[]) _ ?_;simp only[lp,pure,List.map_toArray,uK,Instr.fill];refine AA _ _ (Jo ac λr K=>?_);rw[(FL K).1];exact h r _ ⟨[],.inr ⟨r,_,V,V,by simp,qH _,by simp⟩,V,λi x ws ag=>by simp at ag⟩ (FL K).2
theorem Am.rows{pp:Rp α}{a:Option Addr}{xs:List α}(U:Am pp E a c xs):∃wss:List (Lv_),wss.length=xs.length/\(∀(i:Nat) x ws,xs[i]?=some x->wss[i]?=some ws->pp.r E ws x)/\
  ((xs=[]/\∀ad:Addr,a=some ad->ad.spot=none∨c=0)∨∃bk off,a=some ⟨bk,off,none⟩/\∀(i:Nat) ws,wss[i]?=some ws->At E bk (off+i*pp.n) ws):=by
 obtain⟨ag,U⟩:=U;rcases U with⟨rfl,Z⟩ | ⟨bk,off,rfl,ac⟩;exact⟨[],V,λi x ws O=>by simp at O,.inl ⟨V,Z⟩⟩
 .have Y:∀i:Fin xs.length,∃ws,pp.r E ws xs[i]/\At E bk (off+i*pp.n) ws:=λi=>ac i xs[i] (bI i.2);refine⟨List.ofFn λi=>Classical.choose (Y i),by simp,λi x ws O hw=>?_,.inr ⟨bk,off,V,λi ws hw=>?_⟩⟩;have K:i<xs.length:=(dY.1 O).1;simp[K] at hw;subst hw;rw[bI K] at O;cases O;exact(rY (Y ⟨i,K⟩)).1
  .have K:i<xs.length:=by have:=(dY.1 hw).1;simpa using this
   simp[K] at hw;subst hw;exact(rY (Y ⟨i,K⟩)).2
theorem MV{n:Nat}:∀{wss:List (Lv_)},(∀ws∈wss,ws.length=n)->wss.flatten.length=wss.length*n
 | [],_=>by simp
 | ws::wss,h=>by rw[q1,qT,h ws (by simp),MV λw hw=>h w (f9 _ hw),q4,rF,uj]
theorem QO{n:Nat}:∀{wss:List (Lv_)},(∀ws∈wss,ws.length=n)->∀{j:Nat}{w:Value},wss.flatten[j]?=some w->∃(i m:Nat) (ws:Lv_),wss[i]?=some ws/\ws[m]?=some w/\j=i*n+m
 | [],_,_,_,h=>by simp at h
 | us::wss,K,j,w,h=>by
  have hu:=K us (by simp)
  rw[q1] at h
  rcases f7 j us.length with hj | hj
  .rw [qO hj] at h
   exact⟨0,j,us,V,h,by simp⟩
  .rw [qK hj] at h;let⟨i,m,ws,O,U,Y⟩:=QO (λws hw=>K ws (f9 _ hw)) h;exact⟨i+1,m,ws,by simpa using O,U,by rw[rF];omega⟩
theorem Oi{pp:Rp α}{O:List (Lv_)}{xs ys:List α}(U:wss.length=xs.length)(h:∀(i:Nat) x ws,xs[i]?=some x->wss[i]?=some ws->pp.r E ws x)(Y:∀(i:Nat) x ws,ys[i]?=some x->O[i]?=some ws->pp.r E ws x):
  ∀(i:Nat) y us,(xs++ys)[i]?=some y->(wss++O)[i]?=some us->pp.r E us y:=by
 intro i y us K hu;rcases f7 i xs.length with hi | hi;rw[qO hi] at K;rw[qO (by omega)] at hu;exact h i y us K hu;rw[qK hi] at K;rw[qK (by omega),U] at hu;exact Y _ y us K hu
theorem Yy{e t t1:TypeId}{aw l m:Nat}{a:Option Addr}{blk:List (Nat×Obj)}{xs ys:Lv_}{i:Nat}{rest:List Nat}{d:Option Tmp}{x y:Operand}{ty:TypeId}{p:String}{af:Ae_}{g:On_}{z:Value}{B1:List (Nat×Obj)}
  (a8:ops[i]?=some ⟨d,.call ⟨.builtin .append,#[x,y],ats⟩,ty,p,af,g⟩) (hw:A3 L ops ⟨d,.call ⟨.builtin .append,#[x,y],ats⟩,ty,p,af,g⟩=some true) (a9:BV b n ⟨d,.call ⟨.builtin .append,#[x,y],ats⟩,ty,p,af,g⟩=true)
  (bb:ev L x=some (.slice a l c)) (be:ev L y=some (.slice ax m cx)) (bg:ats[0]?=some t) (bi:ats[1]?=some t1) (bo:P.underlying t=some (.slice e)) (bv:P.underlying t1=some (.slice e)) (bw:Bz P e=some sz) (hb:Ga P e=some aw) (bx:zeroOf P e=some z) (b0:z.cells.size=sz)
  (b1:0<aw) (b2:aw<=64) (b3:l+m<=2^40) (b4:∀w∈ys,CL w=true) (am:GS e sz a l c blk xs) (a0:Nd E H (B0++blk++B1)) (a1:Ix (mk E H (B0++blk++B1)) (.slice ax m cx) sz ys)
  (h:∀a5 ap a2,GS e sz a5 (l+m) ap a2 (xs++ys)->Nd E H (B0++a2)->JL J Q b n (AE L d (.slice a5 (l+m) ap)) ds (.inRegion ops rest::k) cs (mk E H (B0++a2))):
  JL J Q b n L ds (.inRegion ops (i::rest)::k) cs (mk E H (B0++blk++B1)):=by
 refine JL.op a8 hw a9 λρ a6=>?_;rw[MT,a6 x _ bb,a6 y _ be];have b5:PR (B0++blk++B1) B0.length e sz a l c xs:=by
  rcases am with⟨K,Y,ag,ai,Z⟩ | ⟨bk,f,K,Y,ag,ai,Z⟩;exact .inl ⟨K,Y,ag,Z⟩;refine .inr ⟨bk,f,K,?_,ag,ai,Z⟩;subst Y;simp
 have hlen:=am.length;refine AA _ _ (Q1 (pl:=B0.length) bg bi bv bo bw hb bx b0 a0 b5 a1 b4 b1 b3 b2 ?_ ?_ ?_)
 ·
  intro bk f O aq ck co b6 a3 a4 ac;rcases am with⟨K,_⟩ | ⟨U,f0,K,Y,ag,ai,Z⟩;rw[K] at aq;cases aq
  .subst Y;have ca:U=bk:=by rw[K] at aq;simpa using aq
   subst ca;have cc:(B0++ [(U,Obj.cells f0 e (0,0))]++B1).set B0.length (U,.cells O e (0,0))=B0++ [(U,.cells O e (0,0))]++B1:=by
    rw[qI,qI];exact HT _ _ _ _
   rw[cc] at ac ⊢;have aj:Nd E H (B0++ [(U,.cells O e (0,0))]):=Lg.Nd.left ac;refine JL.drop (B0++ [(U,.cells O e (0,0))]) (λp al=>?_) ac (h a c _ (.inr ⟨U,O,K,V,a3,b6,a4.symm⟩) aj);exact qZ.1 (rt _ al)
 .intro a7 hm;rcases am with⟨K,Y,ag,ai,Z⟩ | ⟨U,f0,K,_⟩
  .subst hm;have ce:ys=[]:=by
    cases ax with
    | none=>exact a1.2
    | some ad=>have:=a1.2.1;simp at this;exact this
   subst Y ai Z ce;have aj:Nd E H (B0++ []):=Lg.Nd.left a0;exact JL.drop (B0++ []) (λp al=>qZ.1 (rt _ al)) a0 (h none 0 [] (by simpa using GS.nil) aj)
  .rw [K] at a7;cases a7
 ·
  intro r O ap ci a3 a4 ac;have aj:Nd E H (B0++ [(r,.cells O e (0,0))]):=Lg.Nd.pick ac;refine JL.drop (B0++ [(r,.cells O e (0,0))]) (λp al=>?_) ac (h (some ⟨r,0,none⟩) ap _ (.inr ⟨r,O,V,V,a3,ci,a4.symm⟩) aj);refine qZ.1 ?_;rcases ik.1 al with q | q;simp[q];exact rm _ q
theorem FM{pp:Rp α}{t1:TypeId}{ai:Nat}{a:Option Addr}{xs ys aj:List α}{z:Value}(j:Nat)(Y:CZ xs ys=some aj)
  (a3:ops[i]?=some ⟨d,.call ⟨.builtin .append,#[x,y],ats⟩,ty,p,af,g⟩) (hw:A3 L ops ⟨d,.call ⟨.builtin .append,#[x,y],ats⟩,ty,p,af,g⟩=some true) (a4:BV b n ⟨d,.call ⟨.builtin .append,#[x,y],ats⟩,ty,p,af,g⟩=true)
  (a5:ev L x=some (.slice a xs.length c)) (a6:ev L y=some (.slice ax ys.length cx)) (a7:ats[0]?=some t) (a8:ats[1]?=some t1) (a9:P.underlying t=some (.slice e)) (bb:P.underlying t1=some (.slice e)) (be:Bz P e=some pp.n) (hb:Ga P e=some ai) (bg:zeroOf P e=some z) (bi:z.cells.size=pp.n)
  (bo:0<ai) (bv:ai<=64) (al:OL e pp E a c seg xs) (ap:Am pp E ax cx ys) (bw:Au E H S) (aq:S[j]?=some seg)
  (h:∀Z ac seg',OL e pp E Z ac seg' aj->Au E H (S.set j seg')->JL J Q b n (AE L d (.slice Z aj.length ac)) ds (.inRegion ops rest::k) cs (Ak E H (S.set j seg'))):
  JL J Q b n L ds (.inRegion ops (i::rest)::k) cs (Ak E H S):=by
 unfold CZ at Y;split at Y
 rotate_left
 .cases Y
 rename_i bx;cases Y;obtain⟨wss,al,aw,b0⟩:=al;let⟨b1,a0⟩:=Hu bw aq;obtain⟨ag,O,am,U⟩:=ap.rows;have a1:=IX O am;rw[b1];have b2:∀w∈ag.flatten,CL w=true:=λw hw=>by
  let⟨us,b3,hw⟩:=sJ.1 hw;let⟨q,K⟩:=qZ.1 b3;have b4:q<ys.length:=by rw[← O];exact(dY.1 K).1
  exact pp.one (am q _ us (bI b4) K) w hw
 have hlen:(xs++ys).length=xs.length+ys.length:=by simp
 have a2:Ix (mk E H ((S.set j []).flatten++seg)) (.slice ax ys.length cx) pp.n ag.flatten:=by
  rcases U with⟨U,ct⟩ | ⟨bk,off,rfl,U⟩
  .subst U;have:ag=[]:=q0 O;subst this;cases ax with
   | none=>exact⟨rfl,rfl⟩
   | some ad=>exact⟨.inr rfl,by simp,rl _,λq w K=>by simp at K⟩
  .refine⟨.inl V,by rw[MV a1,O],ap.1,λq w K=>?_⟩;let⟨b5,m,ws,b6,e2,ca⟩:=QO a1 K;have:=(U b5 ws b6).cell (H:=H) (B:=(S.set j []).flatten++seg) e2;subst ca;rw[← sU];exact this
 have cc:(S.set j []).flatten++seg=(S.set j []).flatten++seg++ []:=(qW _).symm;rw[cc] at a0 a2 ⊢;refine Yy a3 hw a4 a5 a6 a7 a8 a9 bb be hb bg bi bo bv bx b2 al a0 a2 λZ ac ce ci ck=>?_;let⟨co,cp⟩:=Jw aq ck;rw[co];have:=h Z ac ce ⟨wss++ag,by rw[hlen,rX];exact ci,by simp[aw,O],Oi aw b0 am⟩ cp;rw[hlen] at this;exact this
end
section
variable {b:Frame}{n m fuel:Nat}
variable {x:Operand}{v:Value}{i:Nat}
theorem En(h:Sub L' L)(k':AQ J Q b n ds ops k cs m D fuel listed L' s):AQ J Q b n ds ops k cs m D fuel listed L s:=λT K=>k' T (K.sub h)
theorem F3{O:Array Bool}(fuel:Nat)(listed:Array Bool)(I:Env->St->Prop)(U:∀L s,I L s->AQ J Q b n ds ops k cs m D fuel listed L s)(h:(∀L s,I L s->AQ J Q b n ds ops k cs m D fuel listed L s)->AQ J Q b n ds ops k cs m D sz O L s):AQ J Q b n ds ops k cs m D sz O L s:=h U
end
variable{kk:Nat}
theorem iv{pp:Rp α}{E:LH}{bk o:Nat}{ws:Lv_}{xs:List α}{m:Int}{x:α}(O:(rA kk pp).r E ws xs)(h:At E bk o ws)(hm:ix xs m=some x):∃us,pp.r E us x/\At E bk (o+m.toNat*pp.n) us/\0<=m/\m<kk:=by
 obtain⟨U,wss,rfl,Y,K⟩:=O;obtain⟨m,rfl,hm⟩:=FP hm;have Z:m<xs.length:=(dY.1 hm).1;have hw:wss[m]?=some wss[m]:=bI (by omega);refine⟨wss[m],K m x _ hm hw,?_,by omega,by omega⟩;obtain⟨f,e,fr,g1,g2⟩:=h;refine⟨f,e,fr,g1,λj w hj=>?_⟩;rw[sU];exact g2 _ _ (Lb (IX (Y.trans U.symm) K) hw j w hj)
variable {v':Value}
section
variable {x:Operand}{v:Value}
end
section
variable {b:Frame}{n:Nat}
variable {x:Operand}{i:Nat}
end
variable{X:Halt->St->Prop}
section
variable {x:Operand}{v:Value}
theorem Zp{o:BinOp}{c K:Av_}(O:o=.eql∨o=.neq)(U:P.eqGuardType P.depth t=false){Q:Unit->St->Prop}(k:Q () s):lp P (eqGuard o t x y (.agg c) (.agg K)) s Q X:=by
 rcases O with rfl | rfl<;>(simp[eqGuard,lp,bind,Sem.bind,program,pure,U];exact k)
end
section
variable (J:Judge P)(Q:Gs_)(b:Frame)(n:Nat)(ds:Ld_)(ops:Ao_)(k:Li_)(cs:Lf_)(m:Nat)(D:Nat->Bool)
def Take(fuel:Nat)(listed:Array Bool)(L:Env)(s:St)(i:Nat):Prop:=
 ∃o,ops[i]?=some o/\(!EJ o.op)=true/\BA n o.dst=true/\A3 L ops o=some true/\∀ρ,Fz L ρ->lp P (execOp ρ o) (BE D s) (λO s'=>match O with
  | .value v=>AQ J Q b n ds ops k cs m D fuel (Bs listed i) (AE L o.dst v) (CR D s s')
  | .skip=>AQ J Q b n ds ops k cs m D fuel (Bs listed i) (AE L o.dst undef) (CR D s s')
  | .enter f args=>∃R,Fo J f args (CR D s s') R/\∀v K,R v K->K.q=false/\(∀x o,(BE D s).E x=some o->(BE D K).E x=some o)/\AQ J Q b n ds ops k cs m D fuel (Bs listed i) (AE L o.dst v) K
  | _=>False) (λ_ _=>False)
end
section
variable {b:Frame}{n m fuel:Nat}
variable {x:Operand}{v:Value}{i:Nat}
theorem QR(U:s.q=false){l:List Nat}(K:Region.ready .any ops listed=l)(Y:l≠ [])(h:∀i∈l,Take J Q b n ds ops k cs m D fuel listed L s i):AQ J Q b n ds ops k cs m D (fuel+1) listed L s:=
 T4 U (by rw[K];exact Y) λi hi o O=>by
  rw[K] at hi
  let⟨o',Z,ac,ag,ai,aj⟩:=h i hi
  obtain rfl:o'=o:=by rw[Z] at O;exact ep O
  exact⟨ac,ag,true,ai,λe=>(by cases e),λ_=>aj⟩
theorem JG.one(K:s.q=false)(O:Region.ready .any ops listed=[i])(h:Take J Q b n ds ops k cs m D fuel listed L s i):AQ J Q b n ds ops k cs m D (fuel+1) listed L s:=
 QR K O (by simp) (by simpa using h)
theorem EH{i:Nat}(K:s.q=false)(O:Region.ready .any ops listed=[i,j])(hi:Take J Q b n ds ops k cs m D fuel listed L s i)(hj:Take J Q b n ds ops k cs m D fuel listed L s j):AQ J Q b n ds ops k cs m D (fuel+1) listed L s:=
 QR K O (by simp) (by intro q K;simp at K;rcases K with rfl | rfl<;>assumption)
end
theorem OL.iG{e:TypeId}{pp:Rp α}{E H:LH}{S:List Seg}{a:Option Addr}{xs:List α}(U:OL e pp E0 a c seg xs)(ac:Au E H S)(ag:S[j]?=some seg):∃wss:List (Lv_),Ix (Ak E H S) (.slice a xs.length c) pp.n wss.flatten/\wss.length=xs.length/\∀(i:Nat) x ws,xs[i]?=some x->wss[i]?=some ws->pp.r E0 ws x:=by
 obtain⟨wss,U,ai,aj⟩:=U;refine⟨wss,?_,ai,aj⟩;rcases U with⟨rfl,al,Z,Y,K⟩ | ⟨bk,f,rfl,rfl,Z,Y,K⟩;exact⟨al,K⟩
 .have hle:xs.length*pp.n<=f.size:=by rw[Z];exact re _ Y
  refine⟨.inl V,by rw[K];simp[hle],Y,λq w O=>?_⟩;rw[K,r4] at O;split at O;refine BY ac ag ?_;simpa using O;cases O
section
variable {x:Operand}
theorem U2{ρ:Operand->Value}{pp:Rp α}{t1:TypeId}{a2:Nat}{a:Option Addr}{xs ys a3:List α}{z:Value}(j:Nat)(aw:CZ xs ys=some a3)
  (bo:ρ x=.slice a xs.length c) (bv:ρ y=.slice ax ys.length cx) (bw:ats[0]?=some t) (bx:ats[1]?=some t1) (b0:P.underlying t=some (.slice e)) (b1:P.underlying t1=some (.slice e)) (b2:Bz P e=some pp.n) (hb:Ga P e=some a2) (b3:zeroOf P e=some z) (b4:z.cells.size=pp.n)
  (b5:0<a2) (b6:a2<=64) (ap:OL e pp E0 a c seg xs) (ca:∃Z:List (Lv_),Ix (Ak E H S) (.slice ax ys.length cx) pp.n Z.flatten/\Z.length=ys.length/\∀(i:Nat) x ws,ys[i]?=some x->Z[i]?=some ws->pp.r E0 ws x) (cc:Au E H S) (a9:S[j]?=some seg)
  (h:∀Y O g seg',OL e pp E0 Y O seg' a3->Au E H (S.set j (g++seg'))->K (.value (.slice Y a3.length O)) (Ak E H (S.set j (g++seg')))):
  lp P (execOp ρ ⟨d,.call ⟨.builtin .append,#[x,y],ats⟩,ty,p,af,g⟩) (Ak E H S) K (λ_ _=>False):=by
 unfold CZ at aw;split at aw
 rotate_left
 .cases aw
 rename_i ce;cases aw;obtain⟨Z,bb,a0,a4⟩:=ca;obtain⟨wss,ap,be,ci⟩:=ap;let⟨ck,a5⟩:=Hu cc a9;have co:=IX a0 a4;have cp:∀w∈Z.flatten,CL w=true:=λw hw=>by
  let⟨us,ct,hw⟩:=sJ.1 hw;let⟨q,bg⟩:=qZ.1 ct;have cw:q<ys.length:=by rw[← a0];exact(dY.1 bg).1
  exact pp.one (a4 q _ us (bI cw) bg) w hw
 have hlen:(xs++ys).length=xs.length+ys.length:=by simp
 rw[ck] at bb ⊢;rw[MT,bo,bv];have a6:∀{Y O seg'},GS e pp.n Y (xs.length+ys.length) O seg' (wss.flatten++Z.flatten)->OL e pp E0 Y O seg' (xs++ys):=λcy=>
  ⟨wss++Z,by rw[hlen,rX];exact cy,by simp[be,a0],Oi be ci a4⟩
 have fin:∀Y O g seg',OL e pp E0 Y O seg' (xs++ys)->Nd E H ((S.set j []).flatten++(g++seg'))->K (.value (.slice Y (xs.length+ys.length) O)) (mk E H ((S.set j []).flatten++(g++seg'))):=λY O g seg' c0 ag=>by
  let⟨c1,c2⟩:=Jw a9 ag;rw[c1];have:=h Y O g seg' c0 c2;rw[hlen] at this;exact this
 have c3:PR ((S.set j []).flatten++seg) (S.set j []).flatten.length e pp.n a xs.length c wss.flatten:=by
  rcases ap with⟨U,ac,aq,aj,al⟩ | ⟨bk,f,U,ac,aq,aj,al⟩;exact .inl ⟨U,ac,aq,al⟩;refine .inr ⟨bk,f,U,?_,aq,aj,al⟩;subst ac;simp
 refine AA _ _ (Q1 (pl:=(S.set j []).flatten.length) bw bx b1 b0 b2 hb b3 b4 a5 c3 bb cp b5 ce b6 ?_ ?_ ?_)
 .intro bk f ai a1 dd dj c4 a7 a8 ag;rcases ap with⟨U,_⟩ | ⟨am,f0,U,ac,aq,aj,al⟩;rw[U] at a1;cases a1
  .subst ac;have c5:am=bk:=by rw[U] at a1;simpa using a1
   subst c5;have c6:((S.set j []).flatten++ [(am,Obj.cells f0 e (0,0))]).set (S.set j []).flatten.length (am,.cells ai e (0,0))=(S.set j []).flatten++ [(am,.cells ai e (0,0))]:=HT _ _ _ _;rw[c6] at ag ⊢;exact fin a c [] _ (a6 (.inr ⟨am,ai,U,V,a7,c4,a8.symm⟩)) ag
 intro bi hm;rcases ap with⟨U,ac,aq,aj,al⟩ | ⟨am,f0,U,_⟩;have c7:Z.flatten=[]:=q0 (by rw[MV co,a0,hm];simp);have:=fin none 0 [] [] (a6 (by rw[ac,hm,al,c7];exact GS.nil)) (by rw[aj] at a5;simpa using a5);rw[ac,hm] at this;rw[aj];simp only[qW] at this ⊢;exact this;rw[U] at bi;cases bi;intro r ai O c8 a7 a8 ag;have c9:(S.set j []).flatten++seg++ [(r,Obj.cells ai e (0,0))]=(S.set j []).flatten++(seg++ [(r,.cells ai e (0,0))]):=qI _ _ _;rw[c9] at ag ⊢;exact fin (some ⟨r,0,none⟩) O seg _ (a6 (.inr ⟨r,ai,V,V,a7,c8,a8.symm⟩)) ag
theorem dE{ρ:Operand->Value}{pp:Rp α}{t1:TypeId}{a:Option Addr}{Y:Seg}{xs ys U:List α}{z:Value}(j ai:Nat)(aj:CZ xs ys=some U)
  (al:ρ x=.slice a xs.length c) (am:ρ y=.slice ax ys.length cx) (ap:ats[0]?=some t) (aq:ats[1]?=some t1) (aw:P.underlying t=some (.slice e)) (a0:P.underlying t1=some (.slice e)) (a1:Bz P e=some pp.n) (hb:Ga P e=some sz) (a2:zeroOf P e=some z) (a3:z.cells.size=pp.n)
  (a4:0<sz) (a5:sz<=64) (a6:OL e pp E0 a c seg xs) (a7:OL e pp E0 ax cx Y ys) (Z:Au E H S) (a8:S[j]?=some seg) (a9:S[ai]?=some Y)
  (h:∀ac ag g seg',OL e pp E0 ac ag seg' U->Au E H (S.set j (g++seg'))->K (.value (.slice ac U.length ag)) (Ak E H (S.set j (g++seg')))):
  lp P (execOp ρ ⟨d,.call ⟨.builtin .append,#[x,y],ats⟩,ty,p,af,g⟩) (Ak E H S) K (λ_ _=>False):=
 U2 j aj al am ap aq aw a0 a1 hb a2 a3 a4 a5 a6 (a7.iG Z a9) Z a8 h
end
section
variable {b:Frame}{n m fuel:Nat}
variable {x:Operand}{v:Value}{i:Nat}
end
section
variable {b:Frame}{n m fuel:Nat}
variable {x:Operand}{v:Value}{i:Nat}
theorem Take.LU(hi:ops[i]?=some oi)(K:(!EJ oi.op&&BA n oi.dst)=true)(hw:A3 L ops oi=some true)
  (h:∀ρ,Fz L ρ->lp P (execOp ρ oi) s (λO s'=>match O with
   | .value v=>AQ J Q b n ds ops k cs m DJ fuel (Bs listed i) (AE L oi.dst v) s'
   | .skip=>AQ J Q b n ds ops k cs m DJ fuel (Bs listed i) (AE L oi.dst undef) s'
   | _=>False) (λ_ _=>False)):Take J Q b n ds ops k cs m DJ fuel listed L s i:=by
 simp only[eM] at K
 refine⟨oi,hi,K.1,K.2,hw,λρ Y=>EP _ (h ρ Y) ?_ (λ_ _ h=>h)⟩
 intro O s' U
 cases O with
 | value v=>exact U
 | skip=>exact U
 | _=>exact U.elim
theorem Take.DL{pp:Rp α}(vs:Lv_){z:Value}(xs:List α)(K:Au E H S)
  (O:ops[i]?=some ⟨d,.buildSlice t sz ps,ty,p,af,g⟩) (hw:A3 L ops ⟨d,.buildSlice t sz ps,ty,p,af,g⟩=some true) (U:BA n d=true)
  (Y:P.underlying t=some (.slice e)) (Z:Bz P e=some pp.n) (ac:zeroOf P e=some z) (ag:decide (0<sz*pp.n/\sz*pp.n<=2^24)=true)
  (ai:ps.toList.mapM (λq=>(ev L q.2).map λv=>(q.1,v))=some ((vs.zipIdx 0).map λq=>(q.2,q.1)))
  (aj:vs.length=sz) (al:xs.length=sz) (am:LD pp E xs vs)
  (h:∀r seg,OL e pp E (some ⟨r,0,none⟩) sz seg xs->Au E H (S++ [seg])->AQ J Q b n ds ops k cs m DJ fuel (Bs listed i) (AE L d (.slice (some ⟨r,0,none⟩) xs.length sz)) (Ak E H (S++ [seg]))):
  Take J Q b n ds ops k cs m DJ fuel listed L (Ak E H S) i:=
 Take.LU O (by simp[EJ,U]) hw λρ ap=>Wo ap vs xs Y Z ac ag ai aj al am K λr seg aq aw=>h r seg aq aw
theorem Take.app0{pp:Rp α}{t1:TypeId}{a:Option Addr}{Z:Seg}{xs ys Y:List α}{z:Value}(j ac:Nat)(ai:Au E H S)(aj:CZ xs ys=some Y)
  (al:ops[i]?=some ⟨d,.call ⟨.builtin .append,#[x,y],ats⟩,ty,p,af,g⟩) (hw:A3 L ops ⟨d,.call ⟨.builtin .append,#[x,y],ats⟩,ty,p,af,g⟩=some true) (am:BA n d=true)
  (ap:ev L x=some (.slice a xs.length c)) (aq:ev L y=some (.slice ax ys.length cx)) (aw:ats[0]?=some t) (a0:ats[1]?=some t1) (a1:P.underlying t=some (.slice e)) (a2:P.underlying t1=some (.slice e)) (a3:Bz P e=some pp.n) (hb:Ga P e=some sz) (a4:zeroOf P e=some z) (a5:z.cells.size=pp.n)
  (a6:0<sz) (a7:sz<=64) (a8:OL e pp E a c seg xs) (a9:OL e pp E ax cx Z ys) (bb:S[j]?=some seg) (be:S[ac]?=some Z)
  (h:∀K O g seg',OL e pp E K O seg' Y->Au E H (S.set j (g++seg'))->AQ J Q b n ds ops k cs m DJ fuel (Bs listed i) (AE L d (.slice K Y.length O)) (Ak E H (S.set j (g++seg')))):
  Take J Q b n ds ops k cs m DJ fuel listed L (Ak E H S) i:=
 Take.LU al (by simp[EJ,am]) hw λρ ag=>dE j ac aj (ag _ _ ap) (ag _ _ aq) aw a0 a1 a2 a3 hb a4 a5 a6 a7 a8 a9 ai bb be λK O bg seg' bi bo=>h K O bg seg' bi bo
theorem Take.Iu{z:Value}(O:Au E H S)(U:ops[i]?=some ⟨d,.alloc e,ty,p,af,g⟩)(hw:A3 L ops ⟨d,.alloc e,ty,p,af,g⟩=some true)(Y:BA n d=true)(Z:zeroOf P e=some z)
  (h:∀r,Au E H (S++ [[(r,.cells z.cells e (0,0))]])->AQ J Q b n ds ops k cs m DJ fuel (Bs listed i) (AE L d (.pointer (some ⟨r,0,none⟩))) (Ak E H (S++ [[(r,.cells z.cells e (0,0))]]))):
  Take J Q b n ds ops k cs m DJ fuel listed L (Ak E H S) i:=
 Take.LU U (by simp[EJ,Y]) hw λρ _=>by
  show lp P (do pure (Next.value (← Instr.alloc e true (.tuple #[])))) _ _ _
  refine AA _ _ ?_
  unfold Instr.alloc
  refine AA _ _ (Ij Z ?_)
  refine AA _ _ (Jo O λr K=>?_)
  rw[(FL K).1]
  exact h r (FL K).2
end
theorem Cc{pp:Rp α}{E:LH}{ws:Lv_}{xs:List α}(K:(rA kk pp).r E ws xs):ws.length=kk*pp.n:=(rA kk pp).len K
theorem Im{pp:Rp α}{E:LH}{ws:Lv_}{xs:List α}{m:Int}{x:α}(O:(rA kk pp).r E ws xs)(hm:ix xs m=some x):∃us,pp.r E us x/\0<=m/\m<kk/\(∀j w,us[j]?=some w->ws[m.toNat*pp.n+j]?=some w):=by
 obtain⟨U,wss,rfl,Y,K⟩:=O;obtain⟨m,rfl,hm⟩:=FP hm;have Z:m<xs.length:=(dY.1 hm).1;have hw:wss[m]?=some wss[m]:=bI (by omega);exact⟨wss[m],K m x _ hm hw,by omega,by omega,λj w hj=>Lb (IX (Y.trans U.symm) K) hw j w hj⟩
section
variable {b:Frame}{n:Nat}
variable {x:Operand}{i:Nat}
theorem HN{pp:Rp α}{a:Addr}{ws:Lv_}{xs:List α}(K:(rA kk pp).r E ws xs)(O:Es P t=some true)(U:Bz P t=some (kk*pp.n))(Y:ρ x=.pointer (some a))(h:∀j v,ws[j]?=some v->s.cell? (a.add j)=some v):Yl P ⟨d,.load t x,ty,p,af,g⟩ ρ s (.agg ws.toArray):=
 F4 O (by rw[Cc K];exact U) Y h
theorem WE{pp:Rp α}{ws:Lv_}{xs:List α}{xv:α}{m:Int}{wr:Bool}(Y:(rA kk pp).r E ws xs)(hm:ix xs m=some xv)
  (al:ops[i]?=some ⟨d,.index t x y,ty,p,af,g⟩) (hw:A3 L ops ⟨d,.index t x y,ty,p,af,g⟩=some true) (am:BV b n ⟨d,.index t x y,ty,p,af,g⟩=true)
  (ap:ev L x=some (.agg ws.toArray)) (aq:ev L y=some (.int kd m)) (aw:P.underlying t=some (.array kk e)) (Z:Bz P e=some pp.n) (a0:Es P e=some wr)
  (h:∀us,pp.r E us xv->JL J Q b n (AE L d (if wr then .agg us.toArray else us.headD undef)) ds (.inRegion ops rest::k) cs s) (a1:wr=false->pp.n=1):
  JL J Q b n L ds (.inRegion ops (i::rest)::k) cs s:=by
 let⟨us,ac,a2,a3,ag⟩:=Im Y hm;have hlen:=pp.len ac;have a4:=Cc Y;refine Bp al hw am (λρ ai=>?_) (h us ac);refine Gi (sm:=Instr.index t (ρ x) (ρ y)) V ?_;rw[ai _ _ ap,ai _ _ aq];unfold Instr.index;simp only[asIntOf,IS];refine AA (x:=underlying t) _ (CM aw ?_);simp only[a2,a3,and_self,rH];refine AA (x:=Go.sizeOf e) _ (Fv Z ?_);unfold Go.part;refine AA (x:=isAgg e) _ (Ox a0 ?_);have a6:m.toNat*pp.n+pp.n<=ws.length:=by
  rw[a4];have:(m.toNat+1)*pp.n<=kk*pp.n:=re _ (by omega);rw[rF] at this;exact this
 cases wr with
 | true=>
  simp only[rH];refine AA (x:=Go.sizeOf e) _ (Fv Z ?_);have a5:ws.toArray.extract (m.toNat*pp.n) (m.toNat*pp.n+pp.n)=us.toArray:=by
   apply rC;intro j;by_cases hj:j<us.length;have U:=ag j us[j] (bI hj);simp only[tK,sE,q6];rw[d0 (by omega),U];simp[hj];rw[qQ (by simp;omega),qQ (by simp;omega)]
  rw[a5];exact⟨V,V⟩
 | false=>
  have aj:=a1 V;obtain⟨w,rfl⟩:∃w,us=[w]:=by
   match us,hlen with
   | [w],_=>exact⟨w,rfl⟩
   | [],K=>rw[aj] at K;cases K
   | _::_::_,K=>rw[aj] at K;simp at K
  have U:=ag 0 w V;simp only[qP,rr,q6];rw[rE] at U;rw[U];exact⟨V,V⟩
end
def HW(S:List Seg):List Nat->Prop
 | []=>True
 | bk::bks=>(∃(j:Nat) (o:Obj),S[j]?=some [(bk,o)])/\HW S bks
theorem HW.mem{S:List Seg}:∀{bks:List Nat},HW S bks->∀bk∈bks,∃(j:Nat) (o:Obj),S[j]?=some [(bk,o)]
 | [],_,_,h=>by cases h
 | b::bks,h,bk,hb=>by
  rcases fP.1 hb with rfl | hb;exact h.1;exact h.2.mem bk hb
variable{bks:List Nat}
theorem HW.free{E H:LH}{S:List Seg}(h:HW S bks)(K:Au E H S):∀x,AH bks x=true->E x=none:=λx O=>by
 obtain⟨j,o,hj⟩:=h.mem x (by simpa [AH] using O)
 exact Pn K hj
variable{s':St}
section
variable {b:Frame}{n m fuel:Nat}
variable {x:Operand}{v:Value}{i:Nat}
theorem Z5{f:FuncId}{vs:Lv_}(ai:HW S bks)(aj:AY J f vs E [] R)(al:Region.ready .any ops listed=[i])
  (am:ops[i]?=some ⟨d,.call ⟨.value (.func f),args,ats⟩,ty,p,af,g⟩) (ap:BA n d=true) (hw:A3 L ops ⟨d,.call ⟨.value (.func f),args,ats⟩,ty,p,af,g⟩=some true) (hb:Ez P f=true) (aq:evs L args.toList=some vs) (Y:Au E H S)
  (aw:∀v E' seg',Le E E'->R v E' seg'->Au E' H (S++ [seg'])->AQ J Q b n ds ops k cs m (AH bks) fuel (Bs listed i) (AE L d v) (Ak E' H (S++ [seg']))):
  AQ J Q b n ds ops k cs m (AH bks) (fuel+1) listed L (Ak E H S):=by
 have a0:=Fo.Ly (aj (By S.flatten H) trivial) (by rintro v s' ⟨E',B',_,_,_,rfl⟩;rfl);refine AQ.call V al am ap hw hb aq a0 ?_;rintro v a8 ⟨⟨E',B',hle,a1,a2,rfl⟩,w,a3⟩;have e2:mk E' (By S.flatten H) B'=mk E' H (B'++S.flatten):=by unfold mk;rw[Gu]
 have a4:Nd E' H S.flatten:=Nd.grow Y λx O=>by
  have a5:=a3.d x O;have U:By B' (By S.flatten H) x=none:=a5;exact(Ii U).1
 have Z:Nd E' H (B'++S.flatten):=Nd.glue a2 a4;have ac:(B'++S.flatten).Perm (S++ [B']).flatten:=by rw[F2];exact f8
 have ag:Au E' H (S++ [B']):=Nd.perm Z ac;rw[e2,FN Z ac];refine⟨V,λx o O=>?_,aw v E' B' hle a1 ag⟩;by_cases hd:AH bks x=true
 .obtain⟨j,o',hj⟩:=ai.mem x (by simpa [AH] using hd);have U:(Ak E H S).get x=some o':=Ej (i:=0) Y hj V;have a6:j<S.length:=(dY.1 hj).1;have a7:(Ak E' H (S++ [B'])).get x=some o':=Ej (i:=0) ag (by rw[qO a6];exact hj) rfl;have K:(if AH bks x then(Ak E H S).get x else E x)=some o:=O
  show(if AH bks x then(Ak E' H (S++ [B'])).get x else E' x)=some o
  rw[d0 hd] at K ⊢;rw[a7,← U];exact K
 .have K:(if AH bks x then(Ak E H S).get x else E x)=some o:=O
  show(if AH bks x then(Ak E' H (S++ [B'])).get x else E' x)=some o
  rw[d7 hd] at K ⊢;exact hle _ _ K
theorem Z0(m:Nat)(bks:List Nat){id:Nat}(U:HW S bks)(Y:Au E H S)(hm:P.follows .mixedOrders=true)(K:(b.kind != .early)=true)(O:ER ops m=true)
  (h:ER ops m=true->AQ J Q b n ds ops k cs m (AH bks) ops.size (Array.replicate ops.size false) L (Ak E H S)):JL J Q b n L ds (.code (.region id ops true)::k) cs (Ak E H S):=
 Rf m (AH bks) V hm K (h O)
theorem B8{bk o:Nat}{c:Av_}{f:Nat×Nat}(j:Nat)(K:Au E H S)(O:S[j]?=some [(bk,.cells c e f)])(U:AH bks bk=true)(Y:∀x o,(BE (AH bks) (Ak E H S)).E x=some o->s'.E x=some o)(hw:c[o]?=some w):s'.cell? ⟨bk,o,none⟩=some w:=by
 have Z:(BE (AH bks) (Ak E H S)).E bk=some (.cells c e f):=by
  show(if AH bks bk then(Ak E H S).get bk else E bk)=_
  rw[d0 U];exact Ej (i:=0) K O V
 have ac:=Y _ _ Z;unfold St.cell? St.get;rw[ac];exact hw
theorem Xl(O:Au E H S)(U:∀x o,(BE (AH bks) (Ak E H S)).E x=some o->s'.E x=some o)(Y:HW S bks):∀x o,E x=some o->s'.E x=some o:=λx o K=>U x o (by
 show(if AH bks x then(Ak E H S).get x else E x)=some o
 rw[d7 (λhd=>by rw[Y.free O x hd] at K;cases K)];exact K)
end
theorem UG{P:Program}{s:St}{ρ:Operand->Value}{x y:Operand}{d:Option Tmp}{t ty e:TypeId}{p:String}{af:Ae_}{g:On_}{kd:IntKind}{xs:List α}{xv:α}{m:Int}{bk:Nat}(hm:ix xs m=some xv)(K:P.underlying t=some (.slice e))(O:Bz P e=some sz)(U:ρ x=.slice (some ⟨bk,0,none⟩) xs.length c)(Y:ρ y=.int kd m):
  Yl P ⟨d,.indexAddr t x y,ty,p,af,g⟩ ρ s (.pointer (some ⟨bk,m.toNat*sz,none⟩)):=by
 obtain⟨m,rfl,hm⟩:=FP hm;have Z:m<xs.length:=(dY.1 hm).1;have:=MY (P:=P) (s:=s) (d:=d) (ty:=ty) (p:=p) (af:=af) (g:=g) K O U Y ⟨by omega,by omega⟩;rw[EG rfl] at this;simpa using this
def Ja(ws:Lv_)(q:Nat)(us:Lv_):Lv_:=(Bf ws.toArray q us).toList
theorem Ou{ws us:Lv_}{q:Nat}(h:q+us.length<=ws.length)(j:Nat):(Ja ws q us)[j]?=if q<=j/\j<q+us.length then us[j - q]? else ws[j]? :=by
 unfold Ja;rw[ro,M0 us _ q (by simpa using h)];simp
variable{l:Lv_}
theorem Yv{ws us:Lv_}{q:Nat}(h:q+us.length<=ws.length):Bf (l++ws).toArray (l.length+q) us=(l++Ja ws q us).toArray:=by
 apply rC;intro j;rw[M0 us _ _ (by simp;omega)];simp only[q6];by_cases O:l.length+q<=j/\j<l.length+q+us.length;rw[d0 O,qK (by omega),Ou h,d0 (by omega)];congr 1;omega;rw[d7 O];rcases f7 j l.length with K | K;rw[qO K,qO K];rw[qK K,qK K,Ou h,d7 (by omega)]
theorem Js{ws us:Lv_}(h:us.length=ws.length):Ja ws 0 us=us:=by
 apply r7;intro j;rw[Ou (by omega)];split;simp;rename_i hj;rw[rb (by omega),rb (by omega)]
theorem Hg{E H:LH}{S:List Seg}{bk:Nat}{ws:Lv_}{e:TypeId}{f:Nat×Nat}(j:Nat)(K:Au E H S)(O:S[j]?=some [(bk,.cells (l++ws).toArray e f)]):∀q v,ws[q]?=some v->(Ak E H S).cell? (Addr.add ⟨bk,l.length,none⟩ q)=some v:=λq v U=>by
 rw[EG rfl]
 refine BY K O ?_
 simp only[q6]
 rw[qK (by omega)]
 rw[show l.length+q - l.length=q by omega];exact U
theorem J5{E H:LH}{S:List Seg}{bk o:Nat}{ws:Lv_}{e:TypeId}{f:Nat×Nat}(j:Nat)(K:Au E H S)(O:S[j]?=some [(bk,.cells (l++ws).toArray e f)])(U:ws[o]?=some w):(Ak E H S).cell? ⟨bk,l.length+o,none⟩=some w:=by
 have:=Hg j K O o w U
 rwa[EG rfl] at this
theorem Pr{pp:Rp α}{E:LH}{ws us:Lv_}{xs:List α}{m:Int}{x y:α}(Y:(rA kk pp).r E ws xs)(hm:ix xs m=some x)(hu:pp.r E us y):(rA kk pp).r E (Ja ws (m.toNat*pp.n) us) (xs.set m.toNat y)/\m.toNat*pp.n+us.length<=ws.length:=by
 have ap:=Cc Y;obtain⟨Z,wss,rfl,ac,ag⟩:=Y;obtain⟨m,rfl,hm⟩:=FP hm;have aq:m<xs.length:=(dY.1 hm).1;have ai:=pp.len hu;have aw:=IX (ac.trans Z.symm) ag;have aj:m*pp.n+us.length<=wss.flatten.length:=by
  rw[ap,ai];have:(m+1)*pp.n<=kk*pp.n:=re _ (by omega);rw[rF] at this;exact this
 simp only[rk];refine⟨⟨by simpa using Z,wss.set m us,?_,by simpa using ac,λi a0 a1 K O=>?_⟩,aj⟩
 .apply r7;intro j;rw[Ou aj];have key:∀(wss:List (Lv_)) (m:Nat) (hm:m<wss.length),(∀ws∈wss,ws.length=pp.n)->∀j,(wss.set m us).flatten[j]?=if m*pp.n<=j/\j<m*pp.n+us.length then us[j - m*pp.n]? else wss.flatten[j]? :=by
   intro wss
   induction wss with
   | nil=>intro m hm;simp at hm
   | cons vs wss a2=>
    intro m hm al j;have a3:vs.length=pp.n:=al vs (by simp);cases m with
    | zero=>
     simp only[sO,q1,sP,rl,true_and,sj,sC];split;rename_i hj;rw[qO hj];rename_i hj;rw[qK (by omega),qK (by omega),ai,a3]
    | succ m=>
     simp only[tB,q1];have U:(m+1)*pp.n=m*pp.n+pp.n:=rF _ _;rcases f7 j vs.length with hj | hj;rw[qO hj,qO hj,d7 (by omega)];rw[qK hj,qK hj,a2 m (by simpa using hm) (λws a4=>al ws (f9 _ a4))];by_cases am:m*pp.n<=j - vs.length/\j - vs.length<m*pp.n+us.length;rw[d0 am,d0 (by omega)];congr 1;omega;rw[d7 am,d7 (by omega)]
  exact(key wss m (by omega) aw j).symm
 .rw [rj] at K O;by_cases U:m=i;subst U;rw[d0 rfl,d0 aq] at K;rw[d0 rfl,d0 (by omega)] at O;cases K;cases O;exact hu;rw[d7 U] at K O;exact ag i a0 a1 K O
theorem GJ{pp:Rp α}{E:LH}{x:α}(h:pp.r E [w] x):(rA kk pp).r E (List.replicate kk w) (List.replicate kk x):=by
 refine⟨by simp,List.replicate kk [w],?_,by simp,λi y us K hu=>?_⟩
 .induction kk with
  | zero=>rfl
  | succ k O=>rw[sI,sI,q1,← O];rfl
 .have U:=sD (qL K);have e2:=sD (qL hu);subst U e2;exact h
section
variable {b:Frame}{n:Nat}
variable {x:Operand}{i:Nat}
theorem J8{pp:Rp α}{ws:Lv_}{xs:List α}{xv:α}{m:Int}{bk o:Nat}(K:(rA kk pp).r E ws xs)(hm:ix xs m=some xv)(O:P.underlying t=some (.array kk e))(U:Bz P e=some pp.n)(Y:ρ x=.pointer (some ⟨bk,o,none⟩))(Z:ρ y=.int kd m):
  Yl P ⟨d,.indexAddr t x y,ty,p,af,g⟩ ρ s (.pointer (some ⟨bk,o+m.toNat*pp.n,none⟩)):=by
 let⟨us,ai,ac,ag,aj⟩:=Im K hm;have:=TX (P:=P) (s:=s) (d:=d) (ty:=ty) (p:=p) (af:=af) (g:=g) O U Y Z ⟨ac,ag⟩;rw[EG rfl] at this;exact this
theorem Ht{bk o:Nat}{ws us:Lv_}{v:Value}(j:Nat)(U:ops[i]?=some ⟨d,.store t x y,ty,p,af,g⟩)(hw:A3 L ops ⟨d,.store t x y,ty,p,af,g⟩=some true)(Y:BV b n ⟨d,.store t x y,ty,p,af,g⟩=true)(Z:Au E H S)
  (ac:ev L x=some (.pointer (some ⟨bk,l.length+o,none⟩))) (ag:ev L y=some v) (K:v.cells.toList=us) (ai:Bz P t=some us.length) (aj:∀u∈us,CL u=true) (al:S[j]?=some [(bk,.cells (l++ws).toArray e (0,0))]) (hle:o+us.length<=ws.length)
  (h:Au E H (S.set j [(bk,.cells (l++Ja ws o us).toArray e (0,0))])->JL J Q b n (AE L d undef) ds (.inRegion ops rest::k) cs (Ak E H (S.set j [(bk,.cells (l++Ja ws o us).toArray e (0,0))]))):
  JL J Q b n L ds (.inRegion ops (i::rest)::k) cs (Ak E H S):=by
 have am:v.cells.size=us.length:=by rw[← K];simp
 refine JS.store (v:=v) (off:=l.length+o) j U hw Y Z ac ag (by rw[am];exact ai) (by rw[K];exact aj) al (by simp;omega) λO=>?_;rw[K,Yv hle] at O ⊢;exact h O
end
section
variable {x:Operand}{v:Value}
theorem WN{n:Nat}{kd:IntKind}{a b:Int}(K:P.underlying t=some (.int kd)){Q:Bool->St->Prop}(k:Q (a==b) s):lp P (Op.equalIn (n+1) t (.int kd a) (.int kd b)) s Q X:=by
 unfold Op.equalIn;refine AA _ _ (CM K ?_);simp only[rH];exact k
end
theorem Ut{E H:LH}{S:List Seg}{bk:Nat}{ws:Lv_}{e:TypeId}{f:Nat×Nat}(j:Nat)(K:Au E H S)(O:S[j]?=some [(bk,.cells (l++ws).toArray e f)])(U:AH bks bk=true)(Y:∀x o,(BE (AH bks) (Ak E H S)).E x=some o->s'.E x=some o):∀q v,ws[q]?=some v->s'.cell? (Addr.add ⟨bk,l.length,none⟩ q)=some v:=λq v Z=>by
 rw[EG rfl]
 refine B8 j K O U Y ?_
 simp only[q6]
 rw[qK (by omega)]
 rw[show l.length+q - l.length=q by omega];exact Z
variable {xt t1 t2:TypeId}{o:Option (Int×Option Int)}
section
variable {x:Operand}{v:Value}
end
def Xt{P:Program}(J:Judge P)(v:Value)(args:Av_)(s:St)(R:Value->St->Prop):Prop:=
 ∀(Q:Gs_) (c:Frame) (cs:Lf_),(∀w s',R w s'->J.ok Q (G (c.finish w) cs) s')->
  lp P (do let d ← Deferred.ofValue v args;invoke d.target d.args) s (λK s'=>match K with
   | .enter f a=>J.ok Q (G (Frame.enter P f a .normal) (c::cs)) s'
   | .round l f tm as O=>J.ok Q (G (Frame.round l f tm as O .normal) (c::cs)) s'
   | _=>False) (λ_ _=>False)
def HI{P:Program}(J:Judge P)(v:Value)(args:Lv_)(E:LH)(B:Seg)(R:Value->LH->Seg->Prop):Prop:=
 ∀H,Nd E H B->Xt J v args.toArray (mk E H B) (λv s'=>∃E' B',Le E E'/\R v E' B'/\Nd E' H B'/\s'=mk E' H B')
variable{O:Value}
section
variable {b:Frame}{n i:Nat}
theorem HI.ofFn{f:FuncId}{caps vs:Lv_}{B:Seg}(hb:Ez P f=true)(h:AY J f (vs++caps) E B R):HI J (.func (.func f) #[] caps.toArray) vs E B R:=λH K Q c cs O=>by
 simp only[Deferred.ofValue,bind,Sem.bind,pure,invoke]
 have e: #[]++vs.toArray++caps.toArray=(vs++caps).toArray:=by simp
 rw[e];exact J0 hb (h H K Q c cs O)
theorem YM{x:Operand}{s:St}{vs:Lv_}{R:Value->St->Prop}
  (Y:ops[i]?=some ⟨d,.call ⟨.value x,args,ats⟩,ty,p,af,g⟩) (hw:A3 L ops ⟨d,.call ⟨.value x,args,ats⟩,ty,p,af,g⟩=some true) (U:((b.kind != .early)&&BA n d)=true)
  (Z:ev L x=some O) (ac:evs L args.toList=some vs) (ag:Xt J O vs.toArray s R) (ai:∀v s',R v s'->JL J Q b n (AE L d v) ds (.inRegion ops rest::k) cs s'):
  JL J Q b n L ds (.inRegion ops (i::rest)::k) cs s:=λT K=>by
 simp only[eM] at U
 have aj:args.map (BM T)=vs.toArray:=by
  rw[← GI K.GL ac];apply rW;simp
 refine Judge.oper Y (Cr K hw) (by simpa using U.1) (.inr λc al=>by cases al) ?_;have hd:lp P (execOp (BM T) ⟨d,.call ⟨.value x,args,ats⟩,ty,p,af,g⟩) s (upon J Q b T ds ops i rest k cs d) (MB J Q b T ds ops i rest k cs):=by
  have am:execOp (BM T) ⟨d,.call ⟨.value x,args,ats⟩,ty,p,af,g⟩=(do let d ← Deferred.ofValue O vs.toArray;invoke d.target d.args):=by
   simp only[execOp,resolve,aj,K.GL _ _ Z]
  rw[am];refine EP _ (ag Q (fr b T ds (.inRegion ops (i::rest)::k)) cs λv s' ap=>?_) (λaq s' h=>?_) (λ_ _ h=>h.elim);rw[He (o:=⟨d,.call ⟨.value x,args,ats⟩,ty,p,af,g⟩) _ _ _ _ _ Y];exact ai v s' ap _ (K.put U.2 v);cases aq<;>first | exact h | exact h.elim
 exact hd
theorem Mb{x:Operand}{vs:Lv_}(j:Nat)
  (aj:HI J O vs E seg R) (al:ops[i]?=some ⟨d,.call ⟨.value x,args,ats⟩,ty,p,af,g⟩) (hw:A3 L ops ⟨d,.call ⟨.value x,args,ats⟩,ty,p,af,g⟩=some true) (am:((b.kind != .early)&&BA n d)=true)
  (K:ev L x=some O) (ap:evs L args.toList=some vs) (U:Au E H S) (Y:S[j]?=some seg) (aq:∀v E' seg',Le E E'->R v E' seg'->Au E' H (S.set j seg')->JL J Q b n (AE L d v) ds (.inRegion ops rest::k) cs (Ak E' H (S.set j seg'))):
  JL J Q b n L ds (.inRegion ops (i::rest)::k) cs (Ak E H S):=by
 have Z:S.flatten.Perm (seg++(S.set j []).flatten):=(Cl (seg':=seg) Y).1.trans f8;have ac:Nd E H (seg++(S.set j []).flatten):=Nd.perm U Z;have aw:Ak E H S=mk E (By (S.set j []).flatten H) seg:=by
  rw[show Ak E H S=mk E H S.flatten from rfl,FN U Z];unfold mk;rw[Gu]
 rw[aw];refine YM al hw am K ap (aj _ (Nd.front ac)) ?_;rintro v s' ⟨E',B',hle,a0,a1,rfl⟩;have e2:mk E' (By (S.set j []).flatten H) B'=mk E' H (B'++(S.set j []).flatten):=by unfold mk;rw[Gu]
 have a2:Nd E H (S.set j []).flatten:=by
  have:=ac;rw[Nd.iff] at this ⊢;rw[ru,rS] at this;exact⟨this.1.2.1,λq a3=>this.2 q (rm _ a3)⟩
 refine VH V λ⟨w,a4⟩=>?_;have a5:Nd E' H (S.set j []).flatten:=a2.grow λx K=>by
  have a6:=a4.d x K;have a7:By B' (By (S.set j []).flatten H) x=none:=a6;exact(Ii a7).1
 have ag:Nd E' H (B'++(S.set j []).flatten):=Nd.glue a1 a5;rw[e2];have ai:(B'++(S.set j []).flatten).Perm (S.set j B').flatten:=f8.trans (Cl Y).2.symm;rw[FN ag ai];exact aq v E' B' hle a0 (Nd.perm ag ai)
theorem Take.iJ{m:Nat}{listed:Array Bool}{f:FuncId}{vs:Lv_}(aj:HW S bks)(Y:Au E H S)(al:AY J f vs E [] R)
  (am:ops[i]?=some ⟨d,.call ⟨.value (.func f),args,ats⟩,ty,p,af,g⟩) (hw:A3 L ops ⟨d,.call ⟨.value (.func f),args,ats⟩,ty,p,af,g⟩=some true) (ap:BA n d=true) (hb:Ez P f=true) (aq:evs L args.toList=some vs)
  (aw:∀v E' seg',Le E E'->R v E' seg'->Au E' H (S++ [seg'])->AQ J Q b n ds ops k cs m (AH bks) sz (Bs listed i) (AE L d v) (Ak E' H (S++ [seg']))):
  Take J Q b n ds ops k cs m (AH bks) sz listed L (Ak E H S) i:=by
 have a0:=Fo.Ly (al (By S.flatten H) trivial) (by rintro v s' ⟨E',B',_,_,_,rfl⟩;rfl);refine⟨_,am,by simp[EJ],ap,hw,λρ Z=>?_⟩;have a1:args.map ρ=vs.toArray:=by
  rw[← GI Z aq];apply rW;simp
 have a2:ρ (.func f)=.func (.func f) #[] #[]:=Z _ _ V;simp only[execOp,resolve,bind,Sem.bind,Deferred.ofValue,a2,pure,invoke];have e: #[]++args.map ρ++ #[]=vs.toArray:=by rw[a1];simp
 rw[e];refine J0 hb ?_;rw[LZ];refine⟨_,a0,?_⟩;rintro v bb ⟨⟨E',B',hle,a3,a4,rfl⟩,w,a5⟩;have e2:mk E' (By S.flatten H) B'=mk E' H (B'++S.flatten):=by unfold mk;rw[Gu]
 have a6:Nd E' H S.flatten:=Nd.grow Y λx O=>by
  have a7:=a5.d x O;have U:By B' (By S.flatten H) x=none:=a7;exact(Ii U).1
 have ac:Nd E' H (B'++S.flatten):=Nd.glue a4 a6;have ag:(B'++S.flatten).Perm (S++ [B']).flatten:=by rw[F2];exact f8
 have ai:Au E' H (S++ [B']):=Nd.perm ac ag;rw[e2,FN ac ag];refine⟨V,λx o O=>?_,aw v E' B' hle a3 ai⟩;by_cases hd:AH bks x=true
 .obtain⟨j,o',hj⟩:=aj.mem x (by simpa [AH] using hd);have U:(Ak E H S).get x=some o':=Ej (i:=0) Y hj V;have a8:j<S.length:=(dY.1 hj).1;have a9:(Ak E' H (S++ [B'])).get x=some o':=Ej (i:=0) ai (by rw[qO a8];exact hj) rfl;have K:(if AH bks x then(Ak E H S).get x else E x)=some o:=O
  show(if AH bks x then(Ak E' H (S++ [B'])).get x else E' x)=some o
  rw[d0 hd] at K ⊢;rw[a9,← U];exact K
 .have K:(if AH bks x then(Ak E H S).get x else E x)=some o:=O
  show(if AH bks x then(Ak E' H (S++ [B'])).get x else E' x)=some o
  rw[d7 hd] at K ⊢;exact hle _ _ K
theorem Take.C4{m:Nat}{listed:Array Bool}{f:FuncId}{vs:Lv_}(O:Au E H S)(U:AY J f vs E [] R)
  (Y:ops[i]?=some ⟨d,.call ⟨.value (.func f),args,ats⟩,ty,p,af,g⟩) (hw:A3 L ops ⟨d,.call ⟨.value (.func f),args,ats⟩,ty,p,af,g⟩=some true) (Z:BA n d=true) (hb:Ez P f=true) (ac:evs L args.toList=some vs)
  (K:∀v E' seg',Le E E'->R v E' seg'->Au E' H (S++ [seg'])->AQ J Q b n ds ops k cs m DJ sz (Bs listed i) (AE L d v) (Ak E' H (S++ [seg']))):
  Take J Q b n ds ops k cs m DJ sz listed L (Ak E H S) i:=by
 have e:AH []=DJ:=by funext x;rfl
 rw[← e] at K ⊢;exact Take.iJ (bks:=[]) trivial O U Y hw Z hb ac K
end
open Go.ConcN (upd upd_ne upd_same)
def Ds:Loc->Option Nat | .cell a=>some a.block | .obj r=>some r | _=>none
structure Cg (t:Trace) (w:World) (N:Nat) (S:Nat->St) (Sh:Nat->Prop):Prop where
 fits:∀i,i<N->Fits (S i) w
 hh:∀i j,i<N->j<N->i≠j->∀b,(S i).H b≠none->(S j).H b=none/\(S j).E b=none
 sh:∀i,i<N->∀b,Sh b->(S i).H b=none/\(S i).E b=none
 G3:∀b,Sh b->b<w.heap.size
 clean:∀said,¬Race said t
 low:∀op∈t,op.act.low w.heap.size
 kH:∀i,i<N->∀b,(S i).H b≠none->∀x a,touchAt t x=some a->Ds a.loc=some b->Knows t i x
 kE:∀i,i<N->∀b,(S i).E b≠none->∀x a,touchAt t x=some a->Ds a.loc=some b->a.write=true->Knows t i x
theorem Rd{t:Trace}{x:Nat}{a:Touch}{b n:Nat}(Z:∀op∈t,op.act.low n)(h:touchAt t x=some a)(hb:Ds a.loc=some b):b<n:=by
 let⟨op,ac,K⟩:=touch_of h;have O:=Z op (mem_of_getElem? ac);cases U:op.act with
 | access e=>
  rw[U] at K O;simp only[MemAct.touch?,ry] at K;subst K;simp only[MemAct.low] at O;cases Y:e.loc with
  | cell ad=>rw[Y] at O hb;simp only[Ds,ry] at hb;subst hb;exact O
  | obj r=>rw[Y] at O hb;simp only[Ds,ry] at hb;subst hb;exact O
  | _=>rw[Y] at hb;simp[Ds] at hb
 | mark m=>
  rw[U] at K O;cases m<;>simp only[MemAct.touch?] at K<;>first
   | (simp at K;done)
   | (simp only[ry] at K;subst K;simp only[Ds,ry] at hb;subst hb;exact O)
 | _=>rw[U] at K;simp[MemAct.touch?] at K
variable{w':World}
theorem L9{s:St}{w:World}{e:Event}{a:Touch}{b:Nat}(h:Ev s w w' e)(K:(MemAct.ofEvent e).touch?=some a)(hb:Ds a.loc=some b):
  Hv s w w' b a.write:=by
 obtain⟨loc,wr,Y⟩:=e;cases loc with
 | cell ad=>
  obtain⟨O,U⟩:=h;simp only at O;subst O;simp only[MemAct.ofEvent,MemAct.touch?,ry] at K;subst K;simp only[Ds,ry] at hb;subst hb;exact U
 | obj r=>
  obtain⟨O,U⟩:=h;simp only at O;subst O;simp only[MemAct.ofEvent,MemAct.touch?,ry] at K;subst K;simp only[Ds,ry] at hb;subst hb;exact U
 | mark m=>
  cases m<;>simp only[Ev] at h<;>first | exact h.elim | simp[MemAct.ofEvent,MemAct.touch?] at K
 | _=>exact h.elim
theorem fy{s:St}{w:World}{e:Event}(h:Ev s w w' e):(MemAct.ofEvent e).low w'.heap.size:=by
 obtain⟨loc,wr,U⟩:=e;cases loc with
 | cell ad=>obtain⟨K,O⟩:=h;simp only at K;subst K;exact O.1
 | obj r=>obtain⟨K,O⟩:=h;simp only at K;subst K;cases wr<;>exact O.1
 | mark m=>cases m<;>simp only[Ev] at h<;>first | exact h.elim | exact trivial
 | _=>exact h.elim
theorem X9{l:Loc}(h:l.isMemory=true):∃b,Ds l=some b:=by
 cases l<;>simp[Loc.isMemory] at h<;>exact⟨_,rfl⟩
variable{N:Nat}{Sh:Nat->Prop}
theorem Cg.own{t:Trace}{w:World}{S:Nat->St}(h:Cg t w N S Sh){i:Nat}(hi:i<N){fn:FuncId}{pos:String}{es:Array Event}
  (bb:Fits s' w') (U:Fr (S i) w s' w') (aq:∀e∈es,Ev (S i) w w' e):Cg (t++MemOp.ofEvents i fn pos es) w' N (upd S i s') Sh:=by
 have a5:∀j,j<N->j≠i->∀b o,((S j).H b=some o∨(S j).E b=some o)->w'.heap[b]?=some o/\(S i).H b=none:=by
  intro j hj Y b o K;have hw:w.heap[b]?=some o:=K.elim ((h.fits j hj).h b o) ((h.fits j hj).e b o);have ag:b<w.heap.size:=by
   rcases f7 b w.heap.size with a1 | a1;exact a1;simp[qQ a1] at hw
  have a6:(S i).H b=none:=by
   cases be:(S i).H b with
   | none=>rfl
   | some u=>
    have:=h.hh i j hi hj (q2 Y) b (by rw[be];simp);rcases K with K | K;rw[this.1] at K;cases K;rw[this.2] at K;cases K
  exact⟨by rw[U.keep b ag a6,hw],a6⟩
 have aw:∀j,j<N->∀b,w.heap.size<=b->(S j).H b=none/\(S j).E b=none:=by
  intro j hj b hb;constructor
  .cases O:(S j).H b with
   | none=>rfl
   | some o=>have:=(h.fits j hj).h b o O;simp[qQ hb] at this
  .cases O:(S j).E b with
   | none=>rfl
   | some o=>have:=(h.fits j hj).e b o O;simp[qQ hb] at this
 have ai:∀op∈MemOp.ofEvents i fn pos es,op.g=i/\∃e∈es,op.act=MemAct.ofEvent e:=by
  intro op ai;obtain⟨e,he,rfl⟩:=mem_ofEvents ai;exact⟨V,e,he,V⟩
 have hold:∀x a,touchAt t x=some a->touchAt (t++MemOp.ofEvents i fn pos es) x=some a:=by
  intro x a O;let⟨op,K,_⟩:=touch_of O;rw[touchAt_old (lt_size_of_getElem? K)];exact O
 have a0:∀x a,touchAt (t++MemOp.ofEvents i fn pos es) x=some a->touchAt t x=some a∨(Knows (t++MemOp.ofEvents i fn pos es) i x/\∃e∈es,(MemAct.ofEvent e).touch?=some a):=by
  intro x a O;let⟨op,K,a7⟩:=touch_of O;rcases getElem?_append_cases K with⟨ag,bg⟩ | ⟨_,bi⟩;left;rw[touchAt_of bg];exact a7;right;let⟨bo,e,he,al⟩:=ai op bi;exact⟨by have:=knows_own K;rwa[bo] at this,e,he,by rw[← al];exact a7⟩
 have bv:∀j,j<N->j≠i->∀b,s'.H b≠none->(S j).H b=none/\(S j).E b=none:=by
  intro j hj Y b hb;rcases U.own b hb with O | O;exact h.hh i j hi hj (q2 Y) b O;exact aw j hj b O
 have bw:∀j,j<N->j≠i->∀b,(S j).H b≠none->s'.H b=none/\s'.E b=none:=by
  intro j hj Y b hb;have Z:=h.hh j i hj hi Y b hb;have ag:¬w.heap.size<=b:=λO=>hb (aw j hj b O).1;constructor
  .cases O:s'.H b with
   | none=>rfl
   | some o=>
    rcases U.own b (by rw[O];simp) with y | y;exact absurd Z.1 y;exact absurd y ag
  .cases O:s'.E b with
   | none=>rfl
   | some o=>
    rcases U.FB b (by rw[O];simp) with y | y | y;exact absurd Z.2 y;exact absurd Z.1 y;exact absurd y ag
 constructor;intro j hj;by_cases e:j=i;subst e;rw[upd_same];exact bb;rw[upd_ne _ _ e];exact⟨λb o K=>(a5 j hj e b o (.inr K)).1,λb o K=>(a5 j hj e b o (.inl K)).1,(h.fits j hj).d⟩;intro a c a8 am Y b hb;by_cases e:a=i;subst e;rw[upd_same] at hb;rw[upd_ne _ _ (q2 Y)];exact bv c am (q2 Y) b hb;rw[upd_ne _ _ e] at hb;by_cases a9:c=i;subst a9;rw[upd_same];exact bw a a8 Y b hb;rw[upd_ne _ _ a9];exact h.hh a c a8 am Y b hb
 .intro j hj b hb;by_cases e:j=i
  .subst e;rw[upd_same];have Z:=h.sh j hj b hb;have ag:=h.G3 b hb;constructor
   .cases O:s'.H b with
    | none=>rfl
    | some o=>
     rcases U.own b (by rw[O];simp) with y | y;exact absurd Z.1 y;omega
   .cases O:s'.E b with
    | none=>rfl
    | some o=>
     rcases U.FB b (by rw[O];simp) with y | y | y;exact absurd Z.2 y;exact absurd Z.1 y;omega
  .rw [upd_ne _ _ e];exact h.sh j hj b hb
 .exact λb hb=>rz (h.G3 b hb) U.size
 .intro said;refine noRace_append (g:=i) (h.clean said) (λop K=>(ai op K).1) λx a O op K c am bx=>?_;let⟨_,e,he,al⟩:=ai op K;rw[al] at am;obtain⟨b0,hm,aj,_⟩:=bx;let⟨b,hb⟩:=X9 hm;have b1:Ds c.loc=some b:=by rw[← b0];exact hb
  have ap:=L9 (aq e he) am b1;rcases ap.2 with y | y | ⟨y,a2⟩;exact h.kH i hi b y x a O hb;have:=Rd h.low O hb;omega;rcases aj with z | z;exact h.kE i hi b y x a O hb z;rw[a2] at z;cases z
 intro op K;rcases sg.1 K with K | K;exact MemAct.low_mono U.size (h.low op K);let⟨_,e,he,al⟩:=ai op K;rw[al];exact fy (aq e he);intro j hj b hb x a O ac;by_cases e:j=i;subst e;rw[upd_same] at hb;rcases a0 x a O with K | ⟨a3,_⟩;rcases U.own b hb with y | y;exact(h.kH j hj b y x a K ac).app _;have:=Rd h.low K ac;omega;exact a3;rw[upd_ne _ _ e] at hb;rcases a0 x a O with K | ⟨_,ev,he,a4⟩;exact(h.kH j hj b hb x a K ac).app _;have ap:=L9 (aq ev he) a4 ac;have Z:=h.hh j i hj hi e b hb;rcases ap.2 with y | y | ⟨y,_⟩;exact absurd Z.1 y;exact absurd (aw j hj b y).1 hb;exact absurd Z.2 y;intro j hj b hb x a O ac aj;by_cases e:j=i;subst e;rw[upd_same] at hb;rcases a0 x a O with K | ⟨a3,_⟩;rcases U.FB b hb with y | y | y;exact(h.kE j hj b y x a K ac aj).app _;exact(h.kH j hj b y x a K ac).app _;have:=Rd h.low K ac;omega;exact a3;rw[upd_ne _ _ e] at hb;rcases a0 x a O with K | ⟨_,ev,he,a4⟩;exact(h.kE j hj b hb x a K ac aj).app _;have ap:=L9 (aq ev he) a4 ac;rcases ap.2 with y | y | ⟨_,a2⟩;exact absurd ((h.hh i j hi hj (q2 e) b y).2) hb;exact absurd (aw j hj b y).2 hb;rw[a2] at aj;cases aj
theorem Cg.mute{t u:Trace}{w:World}{S:Nat->St}(h:Cg t w N S Sh){g:Nat}(hu:∀op∈u,op.g=g)(Z:∀op∈u,op.act.touch?=none)(ai:∀op∈u,op.act.low w'.heap.size)(hw:w'.heap=w.heap):Cg (t++u) w' N S Sh:=by
 have ac:∀x a,touchAt (t++u) x=some a->touchAt t x=some a:=by
  intro x a O;let⟨op,K,U⟩:=touch_of O;rcases getElem?_append_cases K with⟨ap,aj⟩ | ⟨_,al⟩;rw[touchAt_of aj];exact U;rw[Z op al] at U;cases U
 exact⟨λi hi=>⟨λb o K=>by rw[hw];exact(h.fits i hi).e b o K,λb o K=>by rw[hw];exact(h.fits i hi).h b o K,(h.fits i hi).d⟩,h.hh,h.sh,λb hb=>by rw[hw];exact h.G3 b hb,
  λsaid=>noRace_append (g:=g) (h.clean said) hu (λx a _ op K c ag _=>by rw[Z op K] at ag;cases ag),
  λop K=>(sg.1 K).elim (λK=>by rw[hw];exact h.low op K) (ai op),
  λi hi b hb x a O Y=>(h.kH i hi b hb x a (ac x a O) Y).app _,λi hi b hb x a O Y am=>(h.kE i hi b hb x a (ac x a O) Y am).app _⟩
theorem Cg.ghost{t:Trace}{w:World}{S:Nat->St}(h:Cg t w N S Sh){i:Nat}(hi:i<N){s₀:St}(ag:CK (S i) s₀):Cg t w N (upd S i s₀) Sh:=by
 have Y:∀b,s₀.H b≠none->(S i).H b≠none:=λb hb=>by let⟨o,ai⟩:=IT hb;rw[ag.own b o ai];simp
 have aj:∀b,s₀.E b≠none->(S i).E b≠none∨(S i).H b≠none:=λb hb=>by
  let⟨o,ai⟩:=IT hb;rcases ag.FB b o ai with x | x;exact .inl (by rw[x];simp);exact .inr (by rw[x.1];simp)
 have Z:∀{x:Option Obj},¬x≠none->x=none:=λh=>uf.1 h;constructor;intro j hj;by_cases e:j=i;subst e;rw[upd_same];exact ag.fits (h.fits j hj);rw[upd_ne _ _ e];exact h.fits j hj;intro a c al am ac b hb;by_cases e:a=i;subst e;rw[upd_same] at hb;rw[upd_ne _ _ (q2 ac)];exact h.hh a c al am ac b (Y b hb);rw[upd_ne _ _ e] at hb;by_cases ap:c=i;subst ap;rw[upd_same];have K:=h.hh a c al am ac b hb;exact⟨Z λx=>Y b x K.1,Z λx=>(aj b x).elim (λy=>y K.2) λy=>y K.1⟩;rw[upd_ne _ _ ap];exact h.hh a c al am ac b hb;intro j hj b hb;by_cases e:j=i;subst e;rw[upd_same];have K:=h.sh j hj b hb;exact⟨Z λx=>Y b x K.1,Z λx=>(aj b x).elim (λy=>y K.2) λy=>y K.1⟩;rw[upd_ne _ _ e];exact h.sh j hj b hb;exact h.G3;exact h.clean;exact h.low;intro j hj b hb x a O U;by_cases e:j=i;subst e;rw[upd_same] at hb;exact h.kH j hj b (Y b hb) x a O U;rw[upd_ne _ _ e] at hb;exact h.kH j hj b hb x a O U;intro j hj b hb x a O U aq;by_cases e:j=i;subst e;rw[upd_same] at hb;rcases aj b hb with y | y;exact h.kE j hj b y x a O U aq;exact h.kH j hj b y x a O U;rw[upd_ne _ _ e] at hb;exact h.kE j hj b hb x a O U aq
open Go.ConcN (sumTo sumTo_upd)
abbrev St.none:St:=St.quiet
def G6(o o':Os):Prop:=∃d:Nat,o'={o with wall:=o.wall+d,mono:=o.mono+d}
theorem G6.refl(o:Os):G6 o o:=⟨0,V⟩
theorem G6.of{o o':Os}(h:o'=o):G6 o o':=h▸ .refl o
theorem G6.trans{a b c:Os}(h:G6 a b)(k:G6 b c):G6 a c:=by
 obtain⟨d,rfl⟩:=h;obtain⟨e,rfl⟩:=k;exact⟨d+e,by simp[sU]⟩
def lone(s:St):Nat->St:=λi=>if i=0 then s else St.none
structure H6 (P:Program) (gs:Array Goroutine) (w:World) (t:Trace) (q:Nat->Nat) (Sh:Nat->Prop) (g:Goroutine) (s:St):Prop where
 main:gs[0]?=some g
 lv:Leavers P t gs q
 Cz:Cg t w gs.size (lone s) Sh
 over:t.HandedOver
 hears:Deaf t 0=0
def Reaches(P:Program)(gs:Array Goroutine)(w:World)(sl:Option (Nat×Nat))(t:Trace)(s:St)(K:Gs_):Prop:=
 ∃(n:Nat) (gs':Array Goroutine) (w':World) (U:Option (Nat×Nat)) (O:Trace) (q':Nat->Nat) (Y:Nat->Prop) (g':Goroutine) (s':St),
  runNT P n (crowd gs w sl) t=(.next (crowd gs' w' U),O)/\H6 P gs' w' O q' Y g' s'/\K g' s'/\Le' s s'/\w'.tape=w.tape/\G6 w.os w'.os/\w'.output=w.output
 where
  Le' (s s' : St) : Prop :=∀ b o, s.E b = some o -> s'.E b = some o
theorem Us{s:St}:upd (lone s) 0 s'=lone s':=by
 funext i;unfold upd lone;split<;>rfl
theorem Oj{P:Program}{m m':Machine}{t ops:Trace}{k:Nat}{r:Stepped×Trace}(h:stepT P m=(.next m',ops))(K:runNT P k m' (t++ops)=r):runNT P (k+1) m t=r:=by
 simp only[runNT,h];exact K
theorem H6.at_{P:Program}{gs:Array Goroutine}{w:World}{t:Trace}{q:Nat->Nat}{g:Goroutine}{s:St}(h:H6 P gs w t q Sh g s)(d:Nat):H6 P gs (w.at d) t q Sh g s:=
 ⟨h.main,h.lv,by
  have:=h.Cz.mute (u:=#[]) (w':=w.at d) (g:=0) (by simp) (by simp) (by simp) rfl
  simpa using this,h.over,h.hears⟩
theorem Zs{P:Program}{g:Goroutine}{s:St}{K:Gs_}(a8:Wx P true g s K):
  ∀(M:Nat) (gs:Array Goroutine) (w:World) (sl:Option (Nat×Nat)) (t:Trace) (q:Nat->Nat) (Sh:Nat->Prop),sumTo gs.size q<=M->H6 P gs w t q Sh g s->Reaches P gs w sl t s K:=by
 intro M
 induction M with
 | zero=>?_
 | succ M bi=>?_
 all_goals
  intro gs w sl t q Sh ci hC;have ap:=a8.1;have bo:∀x∈gs,awake x:=by
   intro x ag;obtain⟨i,hi,rfl⟩:=tQ.1 ag;rcases rD i with rfl | aq
   .have:gs[0]=g:=by simpa [q5 hi] using hC.main
    rw[this];exact awake_of (.inl ap)
   .exact awake_of ((hC.lv.old i _ aq (q5 hi)).status.elim .inl λx=>.inr (.inr x))
  let⟨i,x,d,ai,hi,ag,a9⟩:=crowd_pick (P:=P) (w:=w) (sl:=sl) bo ⟨0,g,hC.main,ap⟩;have aw:=hC.at_ d;have a0:0<gs.size:=(eF.1 hC.main).1;rcases rD i with rfl | aq
  .obtain rfl:x=g:=by rw[hC.main] at hi;exact(ep hi).symm
   have bv:Fits s (w.at d):=aw.Cz.fits 0 a0;let⟨g',s',w',es,a1,a2,a3,Y,aj⟩:=a8.2.1 (w.at d) bv;have a4:=runT_crowd_go (P:=P) (sl:=ai) (i:=0) hi (show stepG P (0==0) x (w.at d)=_ from a1);have al:((gs.map (woken P x g' w')).setIfInBounds 0 g').size=gs.size:=by simp
   have U:∀op∈MemOp.ofEvents 0 x.frame.fn x.frame.place es,op.g=0:=λop O=>by obtain⟨e,_,rfl⟩:=mem_ofEvents O;rfl
   have bw:deafBehind (Deaf t 0) es=Deaf t 0:=deafBehind_still (λe he=>by
    have:=aj e he
    unfold Ev at this
    constructor<;>intro bx<;>rw[bx] at this<;>exact this) _
   refine⟨1,_,w',ai,t++MemOp.ofEvents 0 x.frame.fn x.frame.place es,q,Sh,g',s',Oj (a9.trans a4) V,⟨by simp[a0],⟨λj y hj Z=>?_,λj hj=>?_⟩,?_,?_,?_⟩,a2,Y.ext,Y.tape,.of Y.os,Y.output⟩
   .have a5:0≠j:=by omega
    rw[f6 a5,sn] at Z;obtain⟨z,a6,rfl⟩:=rg.1 Z;have ac:=hC.lv.old j z hj a6;rw[woken_quitsD ac,Deaf_other t (by omega) _ U];exact ac
   rw[Deaf_other t (g':=0) (by simp at hj;omega) _ U];exact hC.lv.above j (by simpa using hj);rw[al,← Us (s:=s)];exact aw.Cz.own a0 a3 (by simpa [lone] using Y) (by simpa [lone] using aj);exact handedOver_app hC.over λop O=>.inl (U op O);rw[Deaf_own,bw];exact hC.hears
  ·
   have ac:=hC.lv.old i x aq hi;have b0:(i==0)=false:=by simp;omega
   have bb:i<gs.size:=(eF.1 hi).1;cases a7:q i with
   | zero=>rw[a7] at ac;rw[ac.1] at ag;cases ag
   | succ k=>
    rw[a7] at ac;rcases ac with⟨b1,_⟩ | ⟨_,x',es,hm,b2,b3⟩;rw[b1] at ag;cases ag
    have ck:sumTo gs.size (upd q i k)+(k+1)=sumTo gs.size q+k:=by
     have:=sumTo_upd q k id bb;simpa [a7] using this
    first
     | (exfalso;omega)
     | (
      have a4:=runT_crowd_go (P:=P) (sl:=ai) (i:=i) hi (by rw[b0];exact b2 (w.at d))
      have al:((gs.map (woken P x x' (w.at d))).setIfInBounds i x').size=gs.size:=by simp
      have U:∀op∈MemOp.ofEvents i x.frame.fn x.frame.place es,op.g=i:=λop O=>by obtain⟨e,_,rfl⟩:=mem_ofEvents O;rfl
      have be:∀op∈MemOp.ofEvents i x.frame.fn x.frame.place es,op.act.touch?=none:=λop O=>by obtain⟨e,he,rfl⟩:=mem_ofEvents O;exact touch_mute (hm e he)
      have b4:H6 P ((gs.map (woken P x x' (w.at d))).setIfInBounds i x') (w.at d) (t++MemOp.ofEvents i x.frame.fn x.frame.place es) (upd q i k) Sh g s:=by
       refine⟨?_,⟨λj y hj Z=>?_,λj hj=>?_⟩,?_,?_,?_⟩
       .have a5:i≠0:=by omega
        rw[f6 a5,sn,hC.main]
        simp[woken_run ap]
       .by_cases am:i=j
        .subst am
         rw[qJ (by simpa using bb)] at Z
         obtain rfl:=ep Z
         rw[upd_same,Deaf_own]
         exact b3
        .rw [f6 am,sn] at Z
         obtain⟨z,a6,rfl⟩:=rg.1 Z
         have bg:=hC.lv.old j z hj a6
         rw[woken_quitsD bg,upd_ne q k (q2 am),Deaf_other t am _ U]
         exact bg
       .rw [Deaf_other t (g':=i) (by simp at hj;omega) _ U]
        exact hC.lv.above j (by simpa using hj)
       .rw [al]
        exact aw.Cz.mute U be (λop O=>by obtain⟨e,he,rfl⟩:=mem_ofEvents O;exact low_mute (hm e he) _) V
       exact handedOver_app hC.over λop O=>.inr (be op O);rw[Deaf_other t (by omega) _ U];exact hC.hears
      obtain⟨n,gs',w',b5,b6,q',ca,g',s',a1,a2,a3,Y,aj,cc,ce⟩:=bi _ (w.at d) ai _ _ Sh (by rw[al];omega) b4
      exact⟨n+1,gs',w',b5,b6,q',ca,g',s',Oj (a9.trans a4) a1,a2,a3,Y,aj,cc,ce⟩)
def Hj(P:Program):Judge P where
 main:=true
 ok Q g s:=∀gs w sl t q Sh,H6 P gs w t q Sh g s->Reaches P gs w sl t s Q
 stop {Q g s} h:=λgs w sl t q Sh hC=>⟨0,gs,w,sl,t,q,Sh,g,s,rfl,hC,h,λ_ _ h=>h,rfl,.refl _,rfl⟩
 step {Q g s} h:=λgs w sl t q Sh hC=>by
  let⟨n,gs',w',K,O,q',U,g',s',Y,Z,ac,ag,ai,aj,al⟩:=Zs h _ gs w sl t q Sh (qH _) hC
  let⟨am,ap,aq,aw,a0,a1,a2,a3,a4,k1,a5,a6,a7,a8,a9,bb⟩:=ac gs' w' K O q' U Z
  refine⟨n+am,ap,aq,aw,a0,a1,a2,a3,a4,?_,a5,a6,λb o h=>a7 b o (ag b o h),a8.trans ai,aj.trans a9,bb.trans al⟩
  rw[runNT_add,Y];exact k1
 trans {Q R g s} h k:=λgs w sl t q Sh hC=>by
  let⟨n,gs',w',K,O,q',U,g',s',Y,Z,ac,ag,ai,aj,al⟩:=h gs w sl t q Sh hC
  let⟨am,ap,aq,aw,a0,a1,a2,a3,a4,k1,a5,a6,a7,a8,a9,bb⟩:=k g' s' ac gs' w' K O q' U Z
  refine⟨n+am,ap,aq,aw,a0,a1,a2,a3,a4,?_,a5,a6,λb o h=>a7 b o (ag b o h),a8.trans ai,aj.trans a9,bb.trans al⟩
  rw[runNT_add,Y];exact k1
 ghost {Q g s s₀} be h:=λgs w sl t q Sh hC=>by
  have bg:0<gs.size:=(eF.1 hC.main).1
  have bi:H6 P gs w t q Sh g s₀:=⟨hC.main,hC.lv,by
   rw[← Us (s:=s)];exact hC.Cz.ghost bg (by simpa [lone] using be),hC.over,hC.hears⟩
  let⟨n,gs',w',K,O,q',U,g',s',Y,Z,ac,ag,ai,aj,al⟩:=h gs w sl t q Sh bi
  exact⟨n,gs',w',K,O,q',U,g',s',Y,Z,ac,λb o h=>ag b o (be.ext b o h),ai,aj,al⟩
end Pal
namespace Pal
open Go Go.Conc
open Go.ConcN (upd upd_same upd_ne)
variable{i:Nat}
section
variable {t u:Trace}{w w':World}{N:Nat}{S:Nat->St}{Sh:Nat->Prop}
theorem Cg.ext(h:Cg t w N S Sh)(ag:∀said,¬Race said (t++u))(hu:∀op∈u,∀a,op.act.touch?=some a->∀b,Ds a.loc=some b->Sh b)
  (ai:∀op∈u,op.act.low w.heap.size) (Z:w'.heap.size=w.heap.size) (hw:∀b,¬Sh b->w'.heap[b]?=w.heap[b]?):Cg (t++u) w' N S Sh:=by
 have hold:∀x a b,touchAt (t++u) x=some a->Ds a.loc=some b->¬Sh b->touchAt t x=some a:=by
  intro x a b U hb O;let⟨op,K,ac⟩:=touch_of U;rcases getElem?_append_cases K with⟨aq,aj⟩ | ⟨_,al⟩;rw[touchAt_of aj];exact ac;exact absurd (hu op al a ac b hb) O
 have O:∀i,i<N->∀b,((S i).H b≠none∨(S i).E b≠none)->¬Sh b:=by
  intro i hi b hb am;have:=h.sh i hi b am;exact hb.elim (λx=>x this.1) (λx=>x this.2)
 refine⟨λi hi=>⟨λb o K=>?_,λb o K=>?_,(h.fits i hi).d⟩,h.hh,h.sh,λb hb=>by rw[Z];exact h.G3 b hb,ag,λop K=>?_,λi hi b hb x a U Y=>?_,λi hi b hb x a U Y ap=>?_⟩;rw[hw b (O i hi b (.inr (by rw[K];simp)))];exact(h.fits i hi).e b o K;rw[hw b (O i hi b (.inl (by rw[K];simp)))];exact(h.fits i hi).h b o K;rcases sg.1 K with K | K;rw[Z];exact h.low op K;rw[Z];exact ai op K;exact(h.kH i hi b hb x a (hold x a b U Y (O i hi b (.inl hb))) Y).app _;exact(h.kE i hi b hb x a (hold x a b U Y (O i hi b (.inr hb))) Y ap).app _
theorem Cg.congr{S':Nat->St}(h:Cg t w N S Sh)(K:∀i,i<N->(S' i).E=(S i).E/\(S' i).H=(S i).H):Cg t w N S' Sh:=by
 refine⟨λi hi=>⟨by rw[(K i hi).1];exact(h.fits i hi).e,by rw[(K i hi).2];exact(h.fits i hi).h,by rw[(K i hi).1,(K i hi).2];exact(h.fits i hi).d⟩,λi j hi hj O b=>?_,λi hi b=>?_,h.G3,h.clean,h.low,λi hi b=>?_,λi hi b=>?_⟩;rw[(K i hi).2,(K j hj).1,(K j hj).2];exact h.hh i j hi hj O b;rw[(K i hi).1,(K i hi).2];exact h.sh i hi b;rw[(K i hi).2];exact h.kH i hi b;rw[(K i hi).1];exact h.kE i hi b
theorem Cg.less(h:Cg t w N S Sh){s':St}(ag:∀b o,s'.E b=some o->(S i).E b=some o)(ai:∀b o,s'.H b=some o->(S i).H b=some o):Cg t w N (upd S i s') Sh:=by
 have U:∀j b o,(upd S i s' j).E b=some o->(S j).E b=some o:=by
  intro j b o K;by_cases e:j=i;subst e;rw[upd_same] at K;exact ag b o K;rwa[upd_ne _ _ e] at K
 have e2:∀j b o,(upd S i s' j).H b=some o->(S j).H b=some o:=by
  intro j b o K;by_cases e:j=i;subst e;rw[upd_same] at K;exact ai b o K;rwa[upd_ne _ _ e] at K
 have n1:∀j b,(S j).E b=none->(upd S i s' j).E b=none:=by
  intro j b hb;cases O:(upd S i s' j).E b with
  | none=>rfl
  | some o=>rw[U j b o O] at hb;cases hb
 have n2:∀j b,(S j).H b=none->(upd S i s' j).H b=none:=by
  intro j b hb;cases O:(upd S i s' j).H b with
  | none=>rfl
  | some o=>rw[e2 j b o O] at hb;cases hb
 have p1:∀j b,(upd S i s' j).E b≠none->(S j).E b≠none:=λj b hb x=>hb (n1 j b x);have p2:∀j b,(upd S i s' j).H b≠none->(S j).H b≠none:=λj b hb x=>hb (n2 j b x);exact⟨λj hj=>⟨λb o K=>(h.fits j hj).e b o (U j b o K),λb o K=>(h.fits j hj).h b o (e2 j b o K),λb hb=>n2 j b ((h.fits j hj).d b (p1 j b hb))⟩,
  λa c Y Z ac b hb=>⟨n2 c b (h.hh a c Y Z ac b (p2 a b hb)).1,n1 c b (h.hh a c Y Z ac b (p2 a b hb)).2⟩,
  λj hj b hb=>⟨n2 j b (h.sh j hj b hb).1,n1 j b (h.sh j hj b hb).2⟩,h.G3,h.clean,h.low,
  λj hj b hb=>h.kH j hj b (p2 j b hb),λj hj b hb=>h.kE j hj b (p1 j b hb)⟩
theorem Cg.push(h:Cg t w N S Sh)(hi:i<N){E:LH}(Z:∀b o,E b=some o->(S i).E b=some o)
  (ai:∀b,E b≠none->∀x a,touchAt t x=some a->Ds a.loc=some b->a.write=true->Knows t N x):Cg t w (N+1) (upd S N ⟨E,λ_=>none,false⟩) Sh:=by
 have K:∀j,j<N->upd S N ⟨E,λ_=>none,false⟩ j=S j:=λj hj=>upd_ne _ _ (by omega);have al:∀b,E b≠none->(S i).E b≠none:=λb hb=>by let⟨o,U⟩:=IT hb;rw[Z b o U];simp
 have ag:∀b,(S i).E b=none->E b=none:=λb hb=>by
  cases ac:E b with
  | none=>rfl
  | some o=>rw[Z b o ac] at hb;cases hb
 have cs:∀j,j<N+1->j<N∨j=N:=λj hj=>by omega
 constructor;intro j hj;rcases cs j hj with hj | rfl;rw[K j hj];exact h.fits j hj;rw[upd_same];exact⟨λb o U=>(h.fits i hi).e b o (Z b o U),λb o U=>(by cases U),λb _=>V⟩
 .intro a c O Y aj b hb;rcases cs a O with O | rfl
  .rw [K a O] at hb;rcases cs c Y with Y | rfl;rw[K c Y];exact h.hh a c O Y aj b hb
   .rw [upd_same];refine⟨V,ag b ?_⟩;by_cases e:a=i
    .subst e;cases ac:(S a).E b with
     | none=>rfl
     | some o=>exact absurd ((h.fits a O).d b (by rw[ac];simp)) hb
    .exact(h.hh a i O hi e b hb).2
  .rw [upd_same] at hb;exact absurd V hb
 intro j hj b hb;rcases cs j hj with hj | rfl;rw[K j hj];exact h.sh j hj b hb;rw[upd_same];exact⟨V,ag b (h.sh i hi b hb).2⟩;exact h.G3;exact h.clean;exact h.low;intro j hj b hb;rcases cs j hj with hj | rfl;rw[K j hj] at hb;exact h.kH j hj b hb;rw[upd_same] at hb;exact absurd V hb;intro j hj b hb;rcases cs j hj with hj | rfl;rw[K j hj] at hb;exact h.kE j hj b hb;rw[upd_same] at hb;exact ai b hb
theorem Cg.share(h:Cg t w N S Sh)(hi:i<N){b₀:Nat}{o₀:Obj}(U:(S i).H b₀=some o₀):
  Cg t w N (upd S i {S i with H:=λb=>if b=b₀ then none else(S i).H b}) (λb=>Sh b∨b=b₀):=by
 have K:Cg t w N (upd S i {S i with H:=λb=>if b=b₀ then none else(S i).H b}) Sh:=
  h.less (λb o O=>O) (λb o O=>by simp only at O;split at O<;>first | (cases O;done) | exact O)
 have Z:b₀<w.heap.size:=by
  have:=(h.fits i hi).h b₀ o₀ U;rcases f7 b₀ w.heap.size with Y | Y;exact Y;simp[qQ Y] at this
 refine⟨K.fits,K.hh,λj hj b hb=>?_,λb hb=>hb.elim (K.G3 b) (λe=>e▸Z),K.clean,K.low,K.kH,K.kE⟩;rcases hb with hb | rfl;exact K.sh j hj b hb
 .by_cases e:j=i
  .subst e;rw[upd_same];refine⟨by simp,?_⟩;cases ac:(S j).E b with
   | none=>rfl
   | some o=>have:=(h.fits j hj).d b (by rw[ac];simp);rw[U] at this;cases this
  .rw [upd_ne _ _ e];exact h.hh i j hi hj (q2 e) b (by rw[U];simp)
end
end Pal
