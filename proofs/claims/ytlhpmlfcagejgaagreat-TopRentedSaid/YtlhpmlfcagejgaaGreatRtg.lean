/- TopRented is true for every input: if each string that is put owes the steward a pound for each place: a part (7 of 8) of the proof of its row. -/
import Derived.Test.YtlhpmlfcagejgaaGreatRtf
set_option linter.all false
set_option maxRecDepth 100000
namespace Go.Proofs.YtlhpmlfcagejgaaGreat
open Go
theorem L3:((Rows.topRentedRow.inPlace==Tryz.pinned.checked.prog.inPlace 3)=true)/\((Rows.topRentedRow.unfollowed==Tryz.pinned.checked.prog.unfollowed 3)=true)/\((Rows.topRentedRow.recurses==Tryz.pinned.checked.prog.recurses 3)=true)/\((Rows.topRentedRow.named==Tryz.pinned.checked.prog.varsNamed 3)=true):=⟨by kernel_rfl,by kernel_rfl,by kernel_rfl,by kernel_rfl⟩
theorem Sr:joinedFacts Tryz.pinned.checked.prog 3 Tryz.f3 Rows.topRentedSpec Rows.topRentedRow=true:=
 Sv (by kernel_rfl) Tryz.UY Tryz.W7 (by kernel_rfl) (by kernel_rfl) (by kernel_rfl) Tryz.Xo (by kernel_rfl) Tryz.Xe L3.1 L3.2.1 L3.2.2.1 L3.2.2.2 (by kernel_rfl) (by kernel_rfl) (by kernel_rfl) (by kernel_rfl) (by kernel_rfl) (by kernel_rfl) (by kernel_rfl) (by kernel_rfl) (by kernel_rfl) Tryz.Yi (by kernel_rfl) Tryz.XE Tryz.OT.1 Tryz.OT.2.1 Tryz.OT.2.2 (by kernel_rfl) (by kernel_rfl) (by kernel_rfl) (by kernel_rfl)
theorem Sq:Tryz.pinned.checked.prog.funcNamed Rows.topRentedRow.func=some 3:=by kernel_rfl
theorem Sw:Tryz.f3.isInstance Tryz.pinned.checked.prog Rows.topRentedRow.origin Rows.topRentedRow.targs:=of_decide_eq_true (by kernel_rfl)
theorem Sx:Tryz.f3.isWrapper Tryz.pinned.checked.prog Rows.topRentedRow.wrapper Rows.topRentedRow.mainSum:=by unfold Func.isWrapper;first | (rw [if_pos (by decide+kernel)];kernel_rfl) | (rw [if_neg (by decide+kernel)];exact⟨rfl,rfl⟩)
end Go.Proofs.YtlhpmlfcagejgaaGreat
