/- ToothAlike answers true for every list of numbers, on every schedule; without a condition beyond those of the given row and card. Part 7 of 8. -/
import Derived.Test.YtboibffcmhheiaaGreatDoorAlf
set_option linter.all false
set_option maxRecDepth 100000
namespace Go.Proofs.YtboibffcmhheiaaGreatDoor
open Go
theorem Ig:((Rows.toothAlikeRow.inPlace==Tryz.pinned.checked.prog.inPlace 7)=true)∧((Rows.toothAlikeRow.unfollowed==Tryz.pinned.checked.prog.unfollowed 7)=true)∧((Rows.toothAlikeRow.recurses==Tryz.pinned.checked.prog.recurses 7)=true)∧((Rows.toothAlikeRow.named==Tryz.pinned.checked.prog.varsNamed 7)=true):=⟨by kernel_rfl,by kernel_rfl,by kernel_rfl,by kernel_rfl⟩
theorem OC:joinedFacts Tryz.pinned.checked.prog 7 Tryz.f7 Rows.toothAlikeSpec Rows.toothAlikeRow=true:=
 OG (by kernel_rfl) Tryz.P3 Tryz.Sa (by kernel_rfl) (by kernel_rfl) (by kernel_rfl) Tryz.R0 (by kernel_rfl) Tryz.RX Ig.1 Ig.2.1 Ig.2.2.1 Ig.2.2.2 (by kernel_rfl) (by kernel_rfl) (by kernel_rfl) (by kernel_rfl) (by kernel_rfl) (by kernel_rfl) (by kernel_rfl) (by kernel_rfl) (by kernel_rfl) Tryz.Sv (by kernel_rfl) Tryz.Sc Tryz.I0.1 Tryz.I0.2.1 Tryz.I0.2.2.1 (by kernel_rfl) (by kernel_rfl) (by kernel_rfl) (by kernel_rfl)
theorem Lm:Tryz.pinned.checked.prog.funcNamed Rows.toothAlikeRow.func=some 7:=by kernel_rfl
theorem OE:Tryz.f7.isInstance Tryz.pinned.checked.prog Rows.toothAlikeRow.origin Rows.toothAlikeRow.targs:=of_decide_eq_true (by kernel_rfl)
theorem OD:Tryz.f7.isWrapper Tryz.pinned.checked.prog Rows.toothAlikeRow.wrapper Rows.toothAlikeRow.mainSum:=by unfold Func.isWrapper;first | (rw [if_pos (by decide+kernel)];kernel_rfl) | (rw [if_neg (by decide+kernel)];exact⟨rfl,rfl⟩)
theorem OF:true=Rows.toothAlikeRow.goesBy Tryz.pinned.checked.prog:=by kernel_rfl
end Go.Proofs.YtboibffcmhheiaaGreatDoor
