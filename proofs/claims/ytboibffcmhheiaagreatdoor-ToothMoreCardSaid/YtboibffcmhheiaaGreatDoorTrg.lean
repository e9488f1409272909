/- ToothMore. Part 7 of 8. -/
import Derived.Test.YtboibffcmhheiaaGreatDoorTrf
set_option linter.all false
set_option maxRecDepth 100000
namespace Go.Proofs.YtboibffcmhheiaaGreatDoor
open Go
theorem Ku:((Rows.toothMoreRow.inPlace==Tryz.pinned.checked.prog.inPlace 6)=true)∧((Rows.toothMoreRow.unfollowed==Tryz.pinned.checked.prog.unfollowed 6)=true)∧((Rows.toothMoreRow.recurses==Tryz.pinned.checked.prog.recurses 6)=true)∧((Rows.toothMoreRow.named==Tryz.pinned.checked.prog.varsNamed 6)=true):=⟨by kernel_rfl,by kernel_rfl,by kernel_rfl,by kernel_rfl⟩
theorem Rg:joinedFacts Tryz.pinned.checked.prog 6 Tryz.f6 Rows.toothMoreSpec Rows.toothMoreRow=true:=
 Rj (by kernel_rfl) Tryz.TI Tryz.VS (by kernel_rfl) (by kernel_rfl) (by kernel_rfl) Tryz.Vt (by kernel_rfl) Tryz.U0 Ku.1 Ku.2.1 Ku.2.2.1 Ku.2.2.2 (by kernel_rfl) (by kernel_rfl) (by kernel_rfl) (by kernel_rfl) (by kernel_rfl) (by kernel_rfl) (by kernel_rfl) (by kernel_rfl) (by kernel_rfl) Tryz.Wg (by kernel_rfl) Tryz.Vz Tryz.LI.1 Tryz.LI.2.1 Tryz.LI.2.2.1 (by kernel_rfl) (by kernel_rfl) (by kernel_rfl) (by kernel_rfl)
theorem NU:Tryz.pinned.checked.prog.funcNamed Rows.toothMoreRow.func=some 6:=by kernel_rfl
theorem Rh:Tryz.f6.isInstance Tryz.pinned.checked.prog Rows.toothMoreRow.origin Rows.toothMoreRow.targs:=of_decide_eq_true (by kernel_rfl)
theorem Ri:Tryz.f6.isWrapper Tryz.pinned.checked.prog Rows.toothMoreRow.wrapper Rows.toothMoreRow.mainSum:=by unfold Func.isWrapper;first | (rw [if_pos (by decide+kernel)];kernel_rfl) | (rw [if_neg (by decide+kernel)];exact⟨rfl,rfl⟩)
theorem Rm:true=Rows.toothMoreRow.goesBy Tryz.pinned.checked.prog:=by kernel_rfl
end Go.Proofs.YtboibffcmhheiaaGreatDoor
