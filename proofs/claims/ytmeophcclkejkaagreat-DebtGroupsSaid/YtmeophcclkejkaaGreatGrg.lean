/- DebtGroups: a part (7 of 8) of the proof of its row. -/
import Derived.Test.YtmeophcclkejkaaGreatGrf
set_option linter.all false
set_option maxRecDepth 100000
namespace Go.Proofs.YtmeophcclkejkaaGreat
open Go
theorem Mi:((Rows.debtGroupsRow.inPlace==Tryz.pinned.checked.prog.inPlace 13)=true)/\((Rows.debtGroupsRow.unfollowed==Tryz.pinned.checked.prog.unfollowed 13)=true)/\((Rows.debtGroupsRow.recurses==Tryz.pinned.checked.prog.recurses 13)=true)/\((Rows.debtGroupsRow.named==Tryz.pinned.checked.prog.varsNamed 13)=true):=⟨by kernel_rfl,by kernel_rfl,by kernel_rfl,by kernel_rfl⟩
theorem TF:joinedFacts Tryz.pinned.checked.prog 13 Tryz.f13 Rows.debtGroupsSpec Rows.debtGroupsRow=true:=
 TK (by kernel_rfl) Tryz.V7 Tryz.Xt (by kernel_rfl) (by kernel_rfl) (by kernel_rfl) Tryz.XL (by kernel_rfl) Tryz.XA Mi.1 Mi.2.1 Mi.2.2.1 Mi.2.2.2 (by kernel_rfl) (by kernel_rfl) (by kernel_rfl) (by kernel_rfl) (by kernel_rfl) (by kernel_rfl) (by kernel_rfl) (by kernel_rfl) (by kernel_rfl) Tryz.ZA (by kernel_rfl) Tryz.Xr Tryz.O6.1 Tryz.O6.2.1 Tryz.O6.2.2 (by kernel_rfl) (by kernel_rfl) (by kernel_rfl) (by kernel_rfl)
theorem TG:Tryz.pinned.checked.prog.funcNamed Rows.debtGroupsRow.func=some 13:=by kernel_rfl
theorem TI:Tryz.f13.isInstance Tryz.pinned.checked.prog Rows.debtGroupsRow.origin Rows.debtGroupsRow.targs:=of_decide_eq_true (by kernel_rfl)
theorem TH:Tryz.f13.isWrapper Tryz.pinned.checked.prog Rows.debtGroupsRow.wrapper Rows.debtGroupsRow.mainSum:=by unfold Func.isWrapper;first | (rw [if_pos (by decide+kernel)];kernel_rfl) | (rw [if_neg (by decide+kernel)];exact⟨rfl,rfl⟩)
end Go.Proofs.YtmeophcclkejkaaGreat
