/- ToothAll: gone through one by one, all horses say what the program says Part 7 of 8. -/
import Derived.Test.YtboibffcmhheiaaGreatDoorTaf
set_option linter.all false
set_option maxRecDepth 100000
namespace Go.Proofs.YtboibffcmhheiaaGreatDoor
open Go
theorem LY:((Rows.toothAllRow.inPlace==Tryz.pinned.checked.prog.inPlace 17)=true)∧((Rows.toothAllRow.unfollowed==Tryz.pinned.checked.prog.unfollowed 17)=true)∧((Rows.toothAllRow.recurses==Tryz.pinned.checked.prog.recurses 17)=true)∧((Rows.toothAllRow.named==Tryz.pinned.checked.prog.varsNamed 17)=true):=⟨by kernel_rfl,by kernel_rfl,by kernel_rfl,by kernel_rfl⟩
theorem Tm:joinedFacts Tryz.pinned.checked.prog 17 Tryz.f17 Rows.toothAllSpec Rows.toothAllRow=true:=
 Tl (by kernel_rfl) Tryz.VR Tryz.XZ (by kernel_rfl) (by kernel_rfl) (by kernel_rfl) Tryz.XW (by kernel_rfl) Tryz.Yt LY.1 LY.2.1 LY.2.2.1 LY.2.2.2 (by kernel_rfl) (by kernel_rfl) (by kernel_rfl) (by kernel_rfl) (by kernel_rfl) (by kernel_rfl) (by kernel_rfl) (by kernel_rfl) (by kernel_rfl) Tryz.Zg (by kernel_rfl) Tryz.XD Tryz.MX.1 Tryz.MX.2.1 Tryz.MX.2.2.1 (by kernel_rfl) (by kernel_rfl) (by kernel_rfl) (by kernel_rfl)
theorem Px:Tryz.pinned.checked.prog.funcNamed Rows.toothAllRow.func=some 17:=by kernel_rfl
theorem Tx:Tryz.f17.isInstance Tryz.pinned.checked.prog Rows.toothAllRow.origin Rows.toothAllRow.targs:=of_decide_eq_true (by kernel_rfl)
theorem Ts:Tryz.f17.isWrapper Tryz.pinned.checked.prog Rows.toothAllRow.wrapper Rows.toothAllRow.mainSum:=by unfold Func.isWrapper;first | (rw [if_pos (by decide+kernel)];kernel_rfl) | (rw [if_neg (by decide+kernel)];exact⟨rfl,rfl⟩)
theorem Tt:true=Rows.toothAllRow.goesBy Tryz.pinned.checked.prog:=by kernel_rfl
end Go.Proofs.YtboibffcmhheiaaGreatDoor
