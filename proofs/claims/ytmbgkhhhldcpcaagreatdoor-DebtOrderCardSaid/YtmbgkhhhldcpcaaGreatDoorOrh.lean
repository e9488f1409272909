/- DebtOrder: a part (8 of 9) of the proof of its row. -/
import Derived.Test.YtmbgkhhhldcpcaaGreatDoorOrg
set_option linter.all false
set_option maxRecDepth 100000
namespace Go.Proofs.YtmbgkhhhldcpcaaGreatDoor
open Go
theorem OY:((Rows.debtOrderRow.inPlace==Tryz.pinned.checked.prog.inPlace 3)=true)/\((Rows.debtOrderRow.unfollowed==Tryz.pinned.checked.prog.unfollowed 3)=true)/\((Rows.debtOrderRow.recurses==Tryz.pinned.checked.prog.recurses 3)=true)/\((Rows.debtOrderRow.named==Tryz.pinned.checked.prog.varsNamed 3)=true):=⟨by kernel_rfl,by kernel_rfl,by kernel_rfl,by kernel_rfl⟩
theorem YS:joinedFacts Tryz.pinned.checked.prog 3 Tryz.f3 Rows.debtOrderSpec Rows.debtOrderRow=true:=
 YW (by kernel_rfl) Tryz.cT Tryz.iC (by kernel_rfl) (by kernel_rfl) (by kernel_rfl) Tryz.j8 (by kernel_rfl) Tryz.jK OY.1 OY.2.1 OY.2.2.1 OY.2.2.2 (by kernel_rfl) (by kernel_rfl) (by kernel_rfl) (by kernel_rfl) (by kernel_rfl) (by kernel_rfl) (by kernel_rfl) (by kernel_rfl) (by kernel_rfl) Tryz.lH (by kernel_rfl) Tryz.jH Tryz.Qs.1 Tryz.Qs.2.1 Tryz.Qs.2.2.1 (by kernel_rfl) (by kernel_rfl) (by kernel_rfl) (by kernel_rfl)
theorem T4:Tryz.pinned.checked.prog.funcNamed Rows.debtOrderRow.func=some 3:=by kernel_rfl
theorem YY:Tryz.f3.isInstance Tryz.pinned.checked.prog Rows.debtOrderRow.origin Rows.debtOrderRow.targs:=of_decide_eq_true (by kernel_rfl)
theorem YU:Tryz.f3.isWrapper Tryz.pinned.checked.prog Rows.debtOrderRow.wrapper Rows.debtOrderRow.mainSum:=by unfold Func.isWrapper;first | (rw [if_pos (by decide+kernel)];kernel_rfl) | (rw [if_neg (by decide+kernel)];exact⟨rfl,rfl⟩)
theorem YZ:true=Rows.debtOrderRow.goesBy Tryz.pinned.checked.prog:=by kernel_rfl
end Go.Proofs.YtmbgkhhhldcpcaaGreatDoor
