/- DebtNumbered: if persons have other numbers: a part (8 of 9) of the proof of its row. -/
import Derived.Test.YtmeophcclkejkaaGreatNug
set_option linter.all false
set_option maxRecDepth 100000
namespace Go.Proofs.YtmeophcclkejkaaGreat
open Go
theorem MZ:((Rows.debtNumberedRow.inPlace==Tryz.pinned.checked.prog.inPlace 11)=true)/\((Rows.debtNumberedRow.unfollowed==Tryz.pinned.checked.prog.unfollowed 11)=true)/\((Rows.debtNumberedRow.recurses==Tryz.pinned.checked.prog.recurses 11)=true)/\((Rows.debtNumberedRow.named==Tryz.pinned.checked.prog.varsNamed 11)=true):=⟨by kernel_rfl,by kernel_rfl,by kernel_rfl,by kernel_rfl⟩
theorem U4:joinedFacts Tryz.pinned.checked.prog 11 Tryz.f11 Rows.debtNumberedSpec Rows.debtNumberedRow=true:=
 U9 (by kernel_rfl) Tryz.W8 Tryz.aJ (by kernel_rfl) (by kernel_rfl) (by kernel_rfl) Tryz.bm (by kernel_rfl) Tryz.Z9 MZ.1 MZ.2.1 MZ.2.2.1 MZ.2.2.2 (by kernel_rfl) (by kernel_rfl) (by kernel_rfl) (by kernel_rfl) (by kernel_rfl) (by kernel_rfl) (by kernel_rfl) (by kernel_rfl) (by kernel_rfl) Tryz.cC (by kernel_rfl) Tryz.aP Tryz.P5.1 Tryz.P5.2.1 Tryz.P5.2.2 (by kernel_rfl) (by kernel_rfl) (by kernel_rfl) (by kernel_rfl)
theorem U2:Tryz.pinned.checked.prog.funcNamed Rows.debtNumberedRow.func=some 11:=by kernel_rfl
theorem U5:Tryz.f11.isInstance Tryz.pinned.checked.prog Rows.debtNumberedRow.origin Rows.debtNumberedRow.targs:=of_decide_eq_true (by kernel_rfl)
theorem U6:Tryz.f11.isWrapper Tryz.pinned.checked.prog Rows.debtNumberedRow.wrapper Rows.debtNumberedRow.mainSum:=by unfold Func.isWrapper;first | (rw [if_pos (by decide+kernel)];kernel_rfl) | (rw [if_neg (by decide+kernel)];exact⟨rfl,rfl⟩)
end Go.Proofs.YtmeophcclkejkaaGreat
