/- DebtPassed, row of debt: for every input the law is true and its argument reads behind the call as before it. Part 7 of 8. -/
import Derived.Test.YtmeophcclkejkaaGreatPsf
set_option linter.all false
set_option maxRecDepth 100000
namespace Go.Proofs.YtmeophcclkejkaaGreat
open Go
theorem Mv:((Rows.debtPassedRow.inPlace==Tryz.pinned.checked.prog.inPlace 5)=true)/\((Rows.debtPassedRow.unfollowed==Tryz.pinned.checked.prog.unfollowed 5)=true)/\((Rows.debtPassedRow.recurses==Tryz.pinned.checked.prog.recurses 5)=true)/\((Rows.debtPassedRow.named==Tryz.pinned.checked.prog.varsNamed 5)=true):=⟨by kernel_rfl,by kernel_rfl,by kernel_rfl,by kernel_rfl⟩
theorem T3:joinedFacts Tryz.pinned.checked.prog 5 Tryz.f5 Rows.debtPassedSpec Rows.debtPassedRow=true:=
 T8 (by kernel_rfl) Tryz.We Tryz.X8 (by kernel_rfl) (by kernel_rfl) (by kernel_rfl) Tryz.Y0 (by kernel_rfl) Tryz.Y4 Mv.1 Mv.2.1 Mv.2.2.1 Mv.2.2.2 (by kernel_rfl) (by kernel_rfl) (by kernel_rfl) (by kernel_rfl) (by kernel_rfl) (by kernel_rfl) (by kernel_rfl) (by kernel_rfl) (by kernel_rfl) Tryz.ZF (by kernel_rfl) Tryz.Yq Tryz.Pz.1 Tryz.Pz.2.1 Tryz.Pz.2.2 (by kernel_rfl) (by kernel_rfl) (by kernel_rfl) (by kernel_rfl)
theorem T2:Tryz.pinned.checked.prog.funcNamed Rows.debtPassedRow.func=some 5:=by kernel_rfl
theorem T4:Tryz.f5.isInstance Tryz.pinned.checked.prog Rows.debtPassedRow.origin Rows.debtPassedRow.targs:=of_decide_eq_true (by kernel_rfl)
theorem T5:Tryz.f5.isWrapper Tryz.pinned.checked.prog Rows.debtPassedRow.wrapper Rows.debtPassedRow.mainSum:=by unfold Func.isWrapper;first | (rw [if_pos (by decide+kernel)];kernel_rfl) | (rw [if_neg (by decide+kernel)];exact⟨rfl,rfl⟩)
end Go.Proofs.YtmeophcclkejkaaGreat
