/- DebtCircles: a part (8 of 9) of the proof of its row. -/
import Derived.Test.YtmeophcclkejkaaGreatCig
set_option linter.all false
set_option maxRecDepth 100000
namespace Go.Proofs.YtmeophcclkejkaaGreat
open Go
theorem MG:((Rows.debtCirclesRow.inPlace==Tryz.pinned.checked.prog.inPlace 12)=true)/\((Rows.debtCirclesRow.unfollowed==Tryz.pinned.checked.prog.unfollowed 12)=true)/\((Rows.debtCirclesRow.recurses==Tryz.pinned.checked.prog.recurses 12)=true)/\((Rows.debtCirclesRow.named==Tryz.pinned.checked.prog.varsNamed 12)=true):=⟨by kernel_rfl,by kernel_rfl,by kernel_rfl,by kernel_rfl⟩
theorem UK:joinedFacts Tryz.pinned.checked.prog 12 Tryz.f12 Rows.debtCirclesSpec Rows.debtCirclesRow=true:=
 UO (by kernel_rfl) Tryz.WI Tryz.ZC (by kernel_rfl) (by kernel_rfl) (by kernel_rfl) Tryz.Zx (by kernel_rfl) Tryz.ZX MG.1 MG.2.1 MG.2.2.1 MG.2.2.2 (by kernel_rfl) (by kernel_rfl) (by kernel_rfl) (by kernel_rfl) (by kernel_rfl) (by kernel_rfl) (by kernel_rfl) (by kernel_rfl) (by kernel_rfl) Tryz.bD (by kernel_rfl) Tryz.YR Tryz.Qa.1 Tryz.Qa.2.1 Tryz.Qa.2.2 (by kernel_rfl) (by kernel_rfl) (by kernel_rfl) (by kernel_rfl)
theorem UL:Tryz.pinned.checked.prog.funcNamed Rows.debtCirclesRow.func=some 12:=by kernel_rfl
theorem UN:Tryz.f12.isInstance Tryz.pinned.checked.prog Rows.debtCirclesRow.origin Rows.debtCirclesRow.targs:=of_decide_eq_true (by kernel_rfl)
theorem UM:Tryz.f12.isWrapper Tryz.pinned.checked.prog Rows.debtCirclesRow.wrapper Rows.debtCirclesRow.mainSum:=by unfold Func.isWrapper;first | (rw [if_pos (by decide+kernel)];kernel_rfl) | (rw [if_neg (by decide+kernel)];exact⟨rfl,rfl⟩)
end Go.Proofs.YtmeophcclkejkaaGreat
