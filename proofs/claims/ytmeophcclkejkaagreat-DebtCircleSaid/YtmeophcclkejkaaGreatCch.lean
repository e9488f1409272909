/- DebtCircle: a circle goes from each person to one to whom they have a debt: a part (8 of 9) of the proof of its row. -/
import Derived.Test.YtmeophcclkejkaaGreatCcg
set_option linter.all false
set_option maxRecDepth 100000
namespace Go.Proofs.YtmeophcclkejkaaGreat
open Go
theorem MR:((Rows.debtCircleRow.inPlace==Tryz.pinned.checked.prog.inPlace 4)=true)/\((Rows.debtCircleRow.unfollowed==Tryz.pinned.checked.prog.unfollowed 4)=true)/\((Rows.debtCircleRow.recurses==Tryz.pinned.checked.prog.recurses 4)=true)/\((Rows.debtCircleRow.named==Tryz.pinned.checked.prog.varsNamed 4)=true):=⟨by kernel_rfl,by kernel_rfl,by kernel_rfl,by kernel_rfl⟩
theorem UM:joinedFacts Tryz.pinned.checked.prog 4 Tryz.f4 Rows.debtCircleSpec Rows.debtCircleRow=true:=
 US (by kernel_rfl) Tryz.W1 Tryz.Zy (by kernel_rfl) (by kernel_rfl) (by kernel_rfl) Tryz.aj (by kernel_rfl) Tryz.aO MR.1 MR.2.1 MR.2.2.1 MR.2.2.2 (by kernel_rfl) (by kernel_rfl) (by kernel_rfl) (by kernel_rfl) (by kernel_rfl) (by kernel_rfl) (by kernel_rfl) (by kernel_rfl) (by kernel_rfl) Tryz.aU (by kernel_rfl) Tryz.aI Tryz.P5.1 Tryz.P5.2.1 Tryz.P5.2.2 (by kernel_rfl) (by kernel_rfl) (by kernel_rfl) (by kernel_rfl)
theorem UN:Tryz.pinned.checked.prog.funcNamed Rows.debtCircleRow.func=some 4:=by kernel_rfl
theorem UO:Tryz.f4.isInstance Tryz.pinned.checked.prog Rows.debtCircleRow.origin Rows.debtCircleRow.targs:=of_decide_eq_true (by kernel_rfl)
theorem UP:Tryz.f4.isWrapper Tryz.pinned.checked.prog Rows.debtCircleRow.wrapper Rows.debtCircleRow.mainSum:=by unfold Func.isWrapper;first | (rw [if_pos (by decide+kernel)];kernel_rfl) | (rw [if_neg (by decide+kernel)];exact⟨rfl,rfl⟩)
end Go.Proofs.YtmeophcclkejkaaGreat
