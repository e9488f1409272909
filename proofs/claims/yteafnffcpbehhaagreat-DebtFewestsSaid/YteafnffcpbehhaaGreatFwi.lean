/- DebtFewests is true for every input: the first settlement with the fewest payments: a part (9 of 10) of the proof of its row. -/
import Derived.Test.YteafnffcpbehhaaGreatFwh
set_option linter.all false
set_option maxRecDepth 100000
namespace Go.Proofs.YteafnffcpbehhaaGreat
open Go
theorem PD:((Rows.debtFewestsRow.inPlace==Tryz.pinned.checked.prog.inPlace 3)=true)/\((Rows.debtFewestsRow.unfollowed==Tryz.pinned.checked.prog.unfollowed 3)=true)/\((Rows.debtFewestsRow.recurses==Tryz.pinned.checked.prog.recurses 3)=true)/\((Rows.debtFewestsRow.named==Tryz.pinned.checked.prog.varsNamed 3)=true):=⟨by kernel_rfl,by kernel_rfl,by kernel_rfl,by kernel_rfl⟩
theorem ZI:joinedFacts Tryz.pinned.checked.prog 3 Tryz.f3 Rows.debtFewestsSpec Rows.debtFewestsRow=true:=
 ZM (by kernel_rfl) Tryz.de Tryz.jK (by kernel_rfl) (by kernel_rfl) (by kernel_rfl) Tryz.kW (by kernel_rfl) Tryz.ja PD.1 PD.2.1 PD.2.2.1 PD.2.2.2 (by kernel_rfl) (by kernel_rfl) (by kernel_rfl) (by kernel_rfl) (by kernel_rfl) (by kernel_rfl) (by kernel_rfl) (by kernel_rfl) (by kernel_rfl) Tryz.lZ (by kernel_rfl) Tryz.lF Tryz.Ud.1 Tryz.Ud.2.1 Tryz.Ud.2.2 (by kernel_rfl) (by kernel_rfl) (by kernel_rfl) (by kernel_rfl)
theorem ZH:Tryz.pinned.checked.prog.funcNamed Rows.debtFewestsRow.func=some 3:=by kernel_rfl
theorem ZK:Tryz.f3.isInstance Tryz.pinned.checked.prog Rows.debtFewestsRow.origin Rows.debtFewestsRow.targs:=of_decide_eq_true (by kernel_rfl)
theorem ZJ:Tryz.f3.isWrapper Tryz.pinned.checked.prog Rows.debtFewestsRow.wrapper Rows.debtFewestsRow.mainSum:=by unfold Func.isWrapper;first | (rw [if_pos (by decide+kernel)];kernel_rfl) | (rw [if_neg (by decide+kernel)];exact⟨rfl,rfl⟩)
end Go.Proofs.YteafnffcpbehhaaGreat
