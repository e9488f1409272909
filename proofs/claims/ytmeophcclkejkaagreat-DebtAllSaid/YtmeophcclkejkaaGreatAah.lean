/- DebtAll: Fewest: a part (8 of 9) of the proof of its row. -/
import Derived.Test.YtmeophcclkejkaaGreatAag
set_option linter.all false
set_option maxRecDepth 100000
namespace Go.Proofs.YtmeophcclkejkaaGreat
open Go
theorem M6:((Rows.debtAllRow.inPlace==Tryz.pinned.checked.prog.inPlace 15)=true)/\((Rows.debtAllRow.unfollowed==Tryz.pinned.checked.prog.unfollowed 15)=true)/\((Rows.debtAllRow.recurses==Tryz.pinned.checked.prog.recurses 15)=true)/\((Rows.debtAllRow.named==Tryz.pinned.checked.prog.varsNamed 15)=true):=⟨by kernel_rfl,by kernel_rfl,by kernel_rfl,by kernel_rfl⟩
theorem VF:joinedFacts Tryz.pinned.checked.prog 15 Tryz.f15 Rows.debtAllSpec Rows.debtAllRow=true:=
 Vy (by kernel_rfl) Tryz.YE Tryz.bA (by kernel_rfl) (by kernel_rfl) (by kernel_rfl) Tryz.Z9 (by kernel_rfl) Tryz.aO M6.1 M6.2.1 M6.2.2.1 M6.2.2.2 (by kernel_rfl) (by kernel_rfl) (by kernel_rfl) (by kernel_rfl) (by kernel_rfl) (by kernel_rfl) (by kernel_rfl) (by kernel_rfl) (by kernel_rfl) Tryz.cv (by kernel_rfl) Tryz.bJ Tryz.Qn.1 Tryz.Qn.2.1 Tryz.Qn.2.2 (by kernel_rfl) (by kernel_rfl) (by kernel_rfl) (by kernel_rfl)
theorem VG:Tryz.pinned.checked.prog.funcNamed Rows.debtAllRow.func=some 15:=by kernel_rfl
theorem VK:Tryz.f15.isInstance Tryz.pinned.checked.prog Rows.debtAllRow.origin Rows.debtAllRow.targs:=of_decide_eq_true (by kernel_rfl)
theorem VR:Tryz.f15.isWrapper Tryz.pinned.checked.prog Rows.debtAllRow.wrapper Rows.debtAllRow.mainSum:=by unfold Func.isWrapper;first | (rw [if_pos (by decide+kernel)];kernel_rfl) | (rw [if_neg (by decide+kernel)];exact⟨rfl,rfl⟩)
end Go.Proofs.YtmeophcclkejkaaGreat
