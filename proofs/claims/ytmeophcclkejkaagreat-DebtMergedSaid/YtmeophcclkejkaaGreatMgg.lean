/- DebtMerged: merged debts have the same nets and settlements: a part (7 of 8) of the proof of its row. -/
import Derived.Test.YtmeophcclkejkaaGreatMgf
set_option linter.all false
set_option maxRecDepth 100000
namespace Go.Proofs.YtmeophcclkejkaaGreat
open Go
theorem MV:((Rows.debtMergedRow.inPlace==Tryz.pinned.checked.prog.inPlace 10)=true)/\((Rows.debtMergedRow.unfollowed==Tryz.pinned.checked.prog.unfollowed 10)=true)/\((Rows.debtMergedRow.recurses==Tryz.pinned.checked.prog.recurses 10)=true)/\((Rows.debtMergedRow.named==Tryz.pinned.checked.prog.varsNamed 10)=true):=⟨by kernel_rfl,by kernel_rfl,by kernel_rfl,by kernel_rfl⟩
theorem UY:joinedFacts Tryz.pinned.checked.prog 10 Tryz.f10 Rows.debtMergedSpec Rows.debtMergedRow=true:=
 U1 (by kernel_rfl) Tryz.W5 Tryz.aO (by kernel_rfl) (by kernel_rfl) (by kernel_rfl) Tryz.ZR (by kernel_rfl) Tryz.Z0 MV.1 MV.2.1 MV.2.2.1 MV.2.2.2 (by kernel_rfl) (by kernel_rfl) (by kernel_rfl) (by kernel_rfl) (by kernel_rfl) (by kernel_rfl) (by kernel_rfl) (by kernel_rfl) (by kernel_rfl) Tryz.bR (by kernel_rfl) Tryz.ZP Tryz.Qb.1 Tryz.Qb.2.1 Tryz.Qb.2.2 (by kernel_rfl) (by kernel_rfl) (by kernel_rfl) (by kernel_rfl)
theorem UX:Tryz.pinned.checked.prog.funcNamed Rows.debtMergedRow.func=some 10:=by kernel_rfl
theorem UZ:Tryz.f10.isInstance Tryz.pinned.checked.prog Rows.debtMergedRow.origin Rows.debtMergedRow.targs:=of_decide_eq_true (by kernel_rfl)
theorem U0:Tryz.f10.isWrapper Tryz.pinned.checked.prog Rows.debtMergedRow.wrapper Rows.debtMergedRow.mainSum:=by unfold Func.isWrapper;first | (rw [if_pos (by decide+kernel)];kernel_rfl) | (rw [if_neg (by decide+kernel)];exact⟨rfl,rfl⟩)
end Go.Proofs.YtmeophcclkejkaaGreat
