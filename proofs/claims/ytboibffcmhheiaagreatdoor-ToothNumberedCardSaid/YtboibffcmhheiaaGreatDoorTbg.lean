/- ToothNumbered: with other numbers of the mouths all answers are the same Part 7 of 8. -/
import Derived.Test.YtboibffcmhheiaaGreatDoorTbf
set_option linter.all false
set_option maxRecDepth 100000
namespace Go.Proofs.YtboibffcmhheiaaGreatDoor
open Go
theorem KV:((Rows.toothNumberedRow.inPlace==Tryz.pinned.checked.prog.inPlace 12)=true)∧((Rows.toothNumberedRow.unfollowed==Tryz.pinned.checked.prog.unfollowed 12)=true)∧((Rows.toothNumberedRow.recurses==Tryz.pinned.checked.prog.recurses 12)=true)∧((Rows.toothNumberedRow.named==Tryz.pinned.checked.prog.varsNamed 12)=true):=⟨by kernel_rfl,by kernel_rfl,by kernel_rfl,by kernel_rfl⟩
theorem RQ:joinedFacts Tryz.pinned.checked.prog 12 Tryz.f12 Rows.toothNumberedSpec Rows.toothNumberedRow=true:=
 RZ (by kernel_rfl) Tryz.TM Tryz.VK (by kernel_rfl) (by kernel_rfl) (by kernel_rfl) Tryz.V4 (by kernel_rfl) Tryz.WB KV.1 KV.2.1 KV.2.2.1 KV.2.2.2 (by kernel_rfl) (by kernel_rfl) (by kernel_rfl) (by kernel_rfl) (by kernel_rfl) (by kernel_rfl) (by kernel_rfl) (by kernel_rfl) (by kernel_rfl) Tryz.Xj (by kernel_rfl) Tryz.Wo Tryz.LX.1 Tryz.LX.2.1 Tryz.LX.2.2.1 (by kernel_rfl) (by kernel_rfl) (by kernel_rfl) (by kernel_rfl)
theorem Om:Tryz.pinned.checked.prog.funcNamed Rows.toothNumberedRow.func=some 12:=by kernel_rfl
theorem RU:Tryz.f12.isInstance Tryz.pinned.checked.prog Rows.toothNumberedRow.origin Rows.toothNumberedRow.targs:=of_decide_eq_true (by kernel_rfl)
theorem RR:Tryz.f12.isWrapper Tryz.pinned.checked.prog Rows.toothNumberedRow.wrapper Rows.toothNumberedRow.mainSum:=by unfold Func.isWrapper;first | (rw [if_pos (by decide+kernel)];kernel_rfl) | (rw [if_neg (by decide+kernel)];exact⟨rfl,rfl⟩)
theorem RX:true=Rows.toothNumberedRow.goesBy Tryz.pinned.checked.prog:=by kernel_rfl
end Go.Proofs.YtboibffcmhheiaaGreatDoor
