/- DebtPoor: a part (8 of 9) of the proof of its row. -/
import Derived.Test.YthpiiodagmcpmaaGreatDoorPog
set_option linter.all false
set_option maxRecDepth 100000
namespace Go.Proofs.YthpiiodagmcpmaaGreatDoor
open Go
theorem Oc:((Rows.debtPoorRow.inPlace==Tryz.pinned.checked.prog.inPlace 3)=true)/\((Rows.debtPoorRow.unfollowed==Tryz.pinned.checked.prog.unfollowed 3)=true)/\((Rows.debtPoorRow.recurses==Tryz.pinned.checked.prog.recurses 3)=true)/\((Rows.debtPoorRow.named==Tryz.pinned.checked.prog.varsNamed 3)=true):=⟨by kernel_rfl,by kernel_rfl,by kernel_rfl,by kernel_rfl⟩
theorem Xg:joinedFacts Tryz.pinned.checked.prog 3 Tryz.f3 Rows.debtPoorSpec Rows.debtPoorRow=true:=
 Xj (by kernel_rfl) Tryz.aU Tryz.fh (by kernel_rfl) (by kernel_rfl) (by kernel_rfl) Tryz.eL (by kernel_rfl) Tryz.fC Oc.1 Oc.2.1 Oc.2.2.1 Oc.2.2.2 (by kernel_rfl) (by kernel_rfl) (by kernel_rfl) (by kernel_rfl) (by kernel_rfl) (by kernel_rfl) (by kernel_rfl) (by kernel_rfl) (by kernel_rfl) Tryz.iu (by kernel_rfl) Tryz.gy Tryz.Pt.1 Tryz.Pt.2.1 Tryz.Pt.2.2.1 (by kernel_rfl) (by kernel_rfl) (by kernel_rfl) (by kernel_rfl)
theorem SM:Tryz.pinned.checked.prog.funcNamed Rows.debtPoorRow.func=some 3:=by kernel_rfl
theorem Xr:Tryz.f3.isInstance Tryz.pinned.checked.prog Rows.debtPoorRow.origin Rows.debtPoorRow.targs:=of_decide_eq_true (by kernel_rfl)
theorem Xm:Tryz.f3.isWrapper Tryz.pinned.checked.prog Rows.debtPoorRow.wrapper Rows.debtPoorRow.mainSum:=by unfold Func.isWrapper;first | (rw [if_pos (by decide+kernel)];kernel_rfl) | (rw [if_neg (by decide+kernel)];exact⟨rfl,rfl⟩)
theorem Xs:true=Rows.debtPoorRow.goesBy Tryz.pinned.checked.prog:=by kernel_rfl
end Go.Proofs.YthpiiodagmcpmaaGreatDoor
