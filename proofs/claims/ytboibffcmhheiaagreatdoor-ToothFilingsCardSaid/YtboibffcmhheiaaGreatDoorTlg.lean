/- toothFilings_card. Part 7 of 8. -/
import Derived.Test.YtboibffcmhheiaaGreatDoorTlf
set_option linter.all false
set_option maxRecDepth 100000
namespace Go.Proofs.YtboibffcmhheiaaGreatDoor
open Go
theorem LY:((Rows.toothFilingsRow.inPlace==Tryz.pinned.checked.prog.inPlace 8)=true)∧((Rows.toothFilingsRow.unfollowed==Tryz.pinned.checked.prog.unfollowed 8)=true)∧((Rows.toothFilingsRow.recurses==Tryz.pinned.checked.prog.recurses 8)=true)∧((Rows.toothFilingsRow.named==Tryz.pinned.checked.prog.varsNamed 8)=true):=⟨by kernel_rfl,by kernel_rfl,by kernel_rfl,by kernel_rfl⟩
theorem Tz:joinedFacts Tryz.pinned.checked.prog 8 Tryz.f8 Rows.toothFilingsSpec Rows.toothFilingsRow=true:=
 TH (by kernel_rfl) Tryz.VK Tryz.Yj (by kernel_rfl) (by kernel_rfl) (by kernel_rfl) Tryz.Zu (by kernel_rfl) Tryz.Ys LY.1 LY.2.1 LY.2.2.1 LY.2.2.2 (by kernel_rfl) (by kernel_rfl) (by kernel_rfl) (by kernel_rfl) (by kernel_rfl) (by kernel_rfl) (by kernel_rfl) (by kernel_rfl) (by kernel_rfl) Tryz.aw (by kernel_rfl) Tryz.Zr Tryz.M0.1 Tryz.M0.2.1 Tryz.M0.2.2.1 (by kernel_rfl) (by kernel_rfl) (by kernel_rfl) (by kernel_rfl)
theorem PH:Tryz.pinned.checked.prog.funcNamed Rows.toothFilingsRow.func=some 8:=by kernel_rfl
theorem TE:Tryz.f8.isInstance Tryz.pinned.checked.prog Rows.toothFilingsRow.origin Rows.toothFilingsRow.targs:=of_decide_eq_true (by kernel_rfl)
theorem TD:Tryz.f8.isWrapper Tryz.pinned.checked.prog Rows.toothFilingsRow.wrapper Rows.toothFilingsRow.mainSum:=by unfold Func.isWrapper;first | (rw [if_pos (by decide+kernel)];kernel_rfl) | (rw [if_neg (by decide+kernel)];exact⟨rfl,rfl⟩)
theorem TF:true=Rows.toothFilingsRow.goesBy Tryz.pinned.checked.prog:=by kernel_rfl
end Go.Proofs.YtboibffcmhheiaaGreatDoor
