/- DebtVerdicts: a part (8 of 9) of the proof of its row. -/
import Derived.Test.YtmeophcclkejkaaGreatVeg
set_option linter.all false
set_option maxRecDepth 100000
namespace Go.Proofs.YtmeophcclkejkaaGreat
open Go
theorem M6:((Rows.debtVerdictsRow.inPlace==Tryz.pinned.checked.prog.inPlace 14)=true)/\((Rows.debtVerdictsRow.unfollowed==Tryz.pinned.checked.prog.unfollowed 14)=true)/\((Rows.debtVerdictsRow.recurses==Tryz.pinned.checked.prog.recurses 14)=true)/\((Rows.debtVerdictsRow.named==Tryz.pinned.checked.prog.varsNamed 14)=true):=⟨by kernel_rfl,by kernel_rfl,by kernel_rfl,by kernel_rfl⟩
theorem U8:joinedFacts Tryz.pinned.checked.prog 14 Tryz.f14 Rows.debtVerdictsSpec Rows.debtVerdictsRow=true:=
 Vf (by kernel_rfl) Tryz.Ya Tryz.Z4 (by kernel_rfl) (by kernel_rfl) (by kernel_rfl) Tryz.ZE (by kernel_rfl) Tryz.Z1 M6.1 M6.2.1 M6.2.2.1 M6.2.2.2 (by kernel_rfl) (by kernel_rfl) (by kernel_rfl) (by kernel_rfl) (by kernel_rfl) (by kernel_rfl) (by kernel_rfl) (by kernel_rfl) (by kernel_rfl) Tryz.df (by kernel_rfl) Tryz.aD Tryz.QD.1 Tryz.QD.2.1 Tryz.QD.2.2 (by kernel_rfl) (by kernel_rfl) (by kernel_rfl) (by kernel_rfl)
theorem U9:Tryz.pinned.checked.prog.funcNamed Rows.debtVerdictsRow.func=some 14:=by kernel_rfl
theorem Va:Tryz.f14.isInstance Tryz.pinned.checked.prog Rows.debtVerdictsRow.origin Rows.debtVerdictsRow.targs:=of_decide_eq_true (by kernel_rfl)
theorem Vb:Tryz.f14.isWrapper Tryz.pinned.checked.prog Rows.debtVerdictsRow.wrapper Rows.debtVerdictsRow.mainSum:=by unfold Func.isWrapper;first | (rw [if_pos (by decide+kernel)];kernel_rfl) | (rw [if_neg (by decide+kernel)];exact⟨rfl,rfl⟩)
end Go.Proofs.YtmeophcclkejkaaGreat
