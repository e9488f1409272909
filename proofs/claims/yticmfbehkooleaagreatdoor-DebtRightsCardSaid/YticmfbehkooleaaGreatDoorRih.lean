/- DebtRights: a part (8 of 9) of the proof of its row. -/
import Derived.Test.YticmfbehkooleaaGreatDoorRig
set_option linter.all false
set_option maxRecDepth 100000
namespace Go.Proofs.YticmfbehkooleaaGreatDoor
open Go
theorem Oa:((Rows.debtRightsRow.inPlace==Tryz.pinned.checked.prog.inPlace 3)=true)/\((Rows.debtRightsRow.unfollowed==Tryz.pinned.checked.prog.unfollowed 3)=true)/\((Rows.debtRightsRow.recurses==Tryz.pinned.checked.prog.recurses 3)=true)/\((Rows.debtRightsRow.named==Tryz.pinned.checked.prog.varsNamed 3)=true):=⟨by kernel_rfl,by kernel_rfl,by kernel_rfl,by kernel_rfl⟩
theorem XD:joinedFacts Tryz.pinned.checked.prog 3 Tryz.f3 Rows.debtRightsSpec Rows.debtRightsRow=true:=
 XJ (by kernel_rfl) Tryz.bI Tryz.ep (by kernel_rfl) (by kernel_rfl) (by kernel_rfl) Tryz.dY (by kernel_rfl) Tryz.fP Oa.1 Oa.2.1 Oa.2.2.1 Oa.2.2.2 (by kernel_rfl) (by kernel_rfl) (by kernel_rfl) (by kernel_rfl) (by kernel_rfl) (by kernel_rfl) (by kernel_rfl) (by kernel_rfl) (by kernel_rfl) Tryz.ik (by kernel_rfl) Tryz.eF Tryz.Po.1 Tryz.Po.2.1 Tryz.Po.2.2.1 (by kernel_rfl) (by kernel_rfl) (by kernel_rfl) (by kernel_rfl)
theorem SN:Tryz.pinned.checked.prog.funcNamed Rows.debtRightsRow.func=some 3:=by kernel_rfl
theorem XH:Tryz.f3.isInstance Tryz.pinned.checked.prog Rows.debtRightsRow.origin Rows.debtRightsRow.targs:=of_decide_eq_true (by kernel_rfl)
theorem XF:Tryz.f3.isWrapper Tryz.pinned.checked.prog Rows.debtRightsRow.wrapper Rows.debtRightsRow.mainSum:=by unfold Func.isWrapper;first | (rw [if_pos (by decide+kernel)];kernel_rfl) | (rw [if_neg (by decide+kernel)];exact⟨rfl,rfl⟩)
theorem XG:true=Rows.debtRightsRow.goesBy Tryz.pinned.checked.prog:=by kernel_rfl
end Go.Proofs.YticmfbehkooleaaGreatDoor
