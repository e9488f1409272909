/- ToothLook answers true for every list of numbers, on every schedule; without a condition beyond those of the given row and card. Part 7 of 8. -/
import Derived.Test.YtboibffcmhheiaaGreatDoorLof
set_option linter.all false
set_option maxRecDepth 100000
namespace Go.Proofs.YtboibffcmhheiaaGreatDoor
open Go
theorem H5:((Rows.toothLookRow.inPlace==Tryz.pinned.checked.prog.inPlace 10)=true)∧((Rows.toothLookRow.unfollowed==Tryz.pinned.checked.prog.unfollowed 10)=true)∧((Rows.toothLookRow.recurses==Tryz.pinned.checked.prog.recurses 10)=true)∧((Rows.toothLookRow.named==Tryz.pinned.checked.prog.varsNamed 10)=true):=⟨by kernel_rfl,by kernel_rfl,by kernel_rfl,by kernel_rfl⟩
theorem Oo:joinedFacts Tryz.pinned.checked.prog 10 Tryz.f10 Rows.toothLookSpec Rows.toothLookRow=true:=
 Ou (by kernel_rfl) Tryz.P2 Tryz.Sy (by kernel_rfl) (by kernel_rfl) (by kernel_rfl) Tryz.Rm (by kernel_rfl) Tryz.R0 H5.1 H5.2.1 H5.2.2.1 H5.2.2.2 (by kernel_rfl) (by kernel_rfl) (by kernel_rfl) (by kernel_rfl) (by kernel_rfl) (by kernel_rfl) (by kernel_rfl) (by kernel_rfl) (by kernel_rfl) Tryz.SE (by kernel_rfl) Tryz.So Tryz.IZ.1 Tryz.IZ.2.1 Tryz.IZ.2.2.1 (by kernel_rfl) (by kernel_rfl) (by kernel_rfl) (by kernel_rfl)
theorem K1:Tryz.pinned.checked.prog.funcNamed Rows.toothLookRow.func=some 10:=by kernel_rfl
theorem Ot:Tryz.f10.isInstance Tryz.pinned.checked.prog Rows.toothLookRow.origin Rows.toothLookRow.targs:=of_decide_eq_true (by kernel_rfl)
theorem Ox:Tryz.f10.isWrapper Tryz.pinned.checked.prog Rows.toothLookRow.wrapper Rows.toothLookRow.mainSum:=by unfold Func.isWrapper;first | (rw [if_pos (by decide+kernel)];kernel_rfl) | (rw [if_neg (by decide+kernel)];exact⟨rfl,rfl⟩)
theorem Ow:true=Rows.toothLookRow.goesBy Tryz.pinned.checked.prog:=by kernel_rfl
end Go.Proofs.YtboibffcmhheiaaGreatDoor
