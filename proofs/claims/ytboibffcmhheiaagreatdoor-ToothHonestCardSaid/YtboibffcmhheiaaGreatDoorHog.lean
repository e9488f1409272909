/- ToothHonest answers true for every list of numbers, on every schedule; without a condition beyond those of the given row and card. Part 7 of 8. -/
import Derived.Test.YtboibffcmhheiaaGreatDoorHof
set_option linter.all false
set_option maxRecDepth 100000
namespace Go.Proofs.YtboibffcmhheiaaGreatDoor
open Go
theorem HY:((Rows.toothHonestRow.inPlace==Tryz.pinned.checked.prog.inPlace 16)=true)∧((Rows.toothHonestRow.unfollowed==Tryz.pinned.checked.prog.unfollowed 16)=true)∧((Rows.toothHonestRow.recurses==Tryz.pinned.checked.prog.recurses 16)=true)∧((Rows.toothHonestRow.named==Tryz.pinned.checked.prog.varsNamed 16)=true):=⟨by kernel_rfl,by kernel_rfl,by kernel_rfl,by kernel_rfl⟩
theorem Oe:joinedFacts Tryz.pinned.checked.prog 16 Tryz.f16 Rows.toothHonestSpec Rows.toothHonestRow=true:=
 Ol (by kernel_rfl) Tryz.PL Tryz.RP (by kernel_rfl) (by kernel_rfl) (by kernel_rfl) Tryz.Sc (by kernel_rfl) Tryz.RL HY.1 HY.2.1 HY.2.2.1 HY.2.2.2 (by kernel_rfl) (by kernel_rfl) (by kernel_rfl) (by kernel_rfl) (by kernel_rfl) (by kernel_rfl) (by kernel_rfl) (by kernel_rfl) (by kernel_rfl) Tryz.SF (by kernel_rfl) Tryz.Rq Tryz.IW.1 Tryz.IW.2.1 Tryz.IW.2.2.1 (by kernel_rfl) (by kernel_rfl) (by kernel_rfl) (by kernel_rfl)
theorem KM:Tryz.pinned.checked.prog.funcNamed Rows.toothHonestRow.func=some 16:=by kernel_rfl
theorem Oi:Tryz.f16.isInstance Tryz.pinned.checked.prog Rows.toothHonestRow.origin Rows.toothHonestRow.targs:=of_decide_eq_true (by kernel_rfl)
theorem Og:Tryz.f16.isWrapper Tryz.pinned.checked.prog Rows.toothHonestRow.wrapper Rows.toothHonestRow.mainSum:=by unfold Func.isWrapper;first | (rw [if_pos (by decide+kernel)];kernel_rfl) | (rw [if_neg (by decide+kernel)];exact⟨rfl,rfl⟩)
theorem Oh:true=Rows.toothHonestRow.goesBy Tryz.pinned.checked.prog:=by kernel_rfl
end Go.Proofs.YtboibffcmhheiaaGreatDoor
