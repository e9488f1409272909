/- ToothSettle. Part 7 of 8. -/
import Derived.Test.YtboibffcmhheiaaGreatDoorTsf
set_option linter.all false
set_option maxRecDepth 100000
namespace Go.Proofs.YtboibffcmhheiaaGreatDoor
open Go
theorem LC:((Rows.toothSettleRow.inPlace==Tryz.pinned.checked.prog.inPlace 11)=true)∧((Rows.toothSettleRow.unfollowed==Tryz.pinned.checked.prog.unfollowed 11)=true)∧((Rows.toothSettleRow.recurses==Tryz.pinned.checked.prog.recurses 11)=true)∧((Rows.toothSettleRow.named==Tryz.pinned.checked.prog.varsNamed 11)=true):=⟨by kernel_rfl,by kernel_rfl,by kernel_rfl,by kernel_rfl⟩
theorem SX:joinedFacts Tryz.pinned.checked.prog 11 Tryz.f11 Rows.toothSettleSpec Rows.toothSettleRow=true:=
 S3 (by kernel_rfl) Tryz.UI Tryz.Ya (by kernel_rfl) (by kernel_rfl) (by kernel_rfl) Tryz.Xu (by kernel_rfl) Tryz.Xh LC.1 LC.2.1 LC.2.2.1 LC.2.2.2 (by kernel_rfl) (by kernel_rfl) (by kernel_rfl) (by kernel_rfl) (by kernel_rfl) (by kernel_rfl) (by kernel_rfl) (by kernel_rfl) (by kernel_rfl) Tryz.Yn (by kernel_rfl) Tryz.Yi Tryz.MR.1 Tryz.MR.2.1 Tryz.MR.2.2.1 (by kernel_rfl) (by kernel_rfl) (by kernel_rfl) (by kernel_rfl)
theorem Pm:Tryz.pinned.checked.prog.funcNamed Rows.toothSettleRow.func=some 11:=by kernel_rfl
theorem S1:Tryz.f11.isInstance Tryz.pinned.checked.prog Rows.toothSettleRow.origin Rows.toothSettleRow.targs:=of_decide_eq_true (by kernel_rfl)
theorem SZ:Tryz.f11.isWrapper Tryz.pinned.checked.prog Rows.toothSettleRow.wrapper Rows.toothSettleRow.mainSum:=by unfold Func.isWrapper;first | (rw [if_pos (by decide+kernel)];kernel_rfl) | (rw [if_neg (by decide+kernel)];exact⟨rfl,rfl⟩)
theorem SY:true=Rows.toothSettleRow.goesBy Tryz.pinned.checked.prog:=by kernel_rfl
end Go.Proofs.YtboibffcmhheiaaGreatDoor
