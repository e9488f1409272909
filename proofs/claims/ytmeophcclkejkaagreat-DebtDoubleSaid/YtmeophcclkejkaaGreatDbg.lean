/- DebtDouble, row of debt: for every input the law is true and its argument reads behind the call as before it. Part 7 of 8. -/
import Derived.Test.YtmeophcclkejkaaGreatDbf
set_option linter.all false
set_option maxRecDepth 100000
namespace Go.Proofs.YtmeophcclkejkaaGreat
open Go
theorem Ml:((Rows.debtDoubleRow.inPlace==Tryz.pinned.checked.prog.inPlace 7)=true)/\((Rows.debtDoubleRow.unfollowed==Tryz.pinned.checked.prog.unfollowed 7)=true)/\((Rows.debtDoubleRow.recurses==Tryz.pinned.checked.prog.recurses 7)=true)/\((Rows.debtDoubleRow.named==Tryz.pinned.checked.prog.varsNamed 7)=true):=⟨by kernel_rfl,by kernel_rfl,by kernel_rfl,by kernel_rfl⟩
theorem T0:joinedFacts Tryz.pinned.checked.prog 7 Tryz.f7 Rows.debtDoubleSpec Rows.debtDoubleRow=true:=
 T6 (by kernel_rfl) Tryz.Wd Tryz.Yr (by kernel_rfl) (by kernel_rfl) (by kernel_rfl) Tryz.YT (by kernel_rfl) Tryz.Yd Ml.1 Ml.2.1 Ml.2.2.1 Ml.2.2.2 (by kernel_rfl) (by kernel_rfl) (by kernel_rfl) (by kernel_rfl) (by kernel_rfl) (by kernel_rfl) (by kernel_rfl) (by kernel_rfl) (by kernel_rfl) Tryz.Z0 (by kernel_rfl) Tryz.Y8 Tryz.Pl.1 Tryz.Pl.2.1 Tryz.Pl.2.2 (by kernel_rfl) (by kernel_rfl) (by kernel_rfl) (by kernel_rfl)
theorem T1:Tryz.pinned.checked.prog.funcNamed Rows.debtDoubleRow.func=some 7:=by kernel_rfl
theorem T2:Tryz.f7.isInstance Tryz.pinned.checked.prog Rows.debtDoubleRow.origin Rows.debtDoubleRow.targs:=of_decide_eq_true (by kernel_rfl)
theorem T3:Tryz.f7.isWrapper Tryz.pinned.checked.prog Rows.debtDoubleRow.wrapper Rows.debtDoubleRow.mainSum:=by unfold Func.isWrapper;first | (rw [if_pos (by decide+kernel)];kernel_rfl) | (rw [if_neg (by decide+kernel)];exact⟨rfl,rfl⟩)
end Go.Proofs.YtmeophcclkejkaaGreat
