/- ToothAges. Part 7 of 8. -/
import Derived.Test.YtboibffcmhheiaaGreatDoorTnf
set_option linter.all false
set_option maxRecDepth 100000
namespace Go.Proofs.YtboibffcmhheiaaGreatDoor
open Go
theorem Mf:((Rows.toothAgesRow.inPlace==Tryz.pinned.checked.prog.inPlace 15)=true)∧((Rows.toothAgesRow.unfollowed==Tryz.pinned.checked.prog.unfollowed 15)=true)∧((Rows.toothAgesRow.recurses==Tryz.pinned.checked.prog.recurses 15)=true)∧((Rows.toothAgesRow.named==Tryz.pinned.checked.prog.varsNamed 15)=true):=⟨by kernel_rfl,by kernel_rfl,by kernel_rfl,by kernel_rfl⟩
theorem TJ:joinedFacts Tryz.pinned.checked.prog 15 Tryz.f15 Rows.toothAgesSpec Rows.toothAgesRow=true:=
 TL (by kernel_rfl) Tryz.VX Tryz.ZA (by kernel_rfl) (by kernel_rfl) (by kernel_rfl) Tryz.YG (by kernel_rfl) Tryz.YX Mf.1 Mf.2.1 Mf.2.2.1 Mf.2.2.2 (by kernel_rfl) (by kernel_rfl) (by kernel_rfl) (by kernel_rfl) (by kernel_rfl) (by kernel_rfl) (by kernel_rfl) (by kernel_rfl) (by kernel_rfl) Tryz.az (by kernel_rfl) Tryz.YJ Tryz.Ng.1 Tryz.Ng.2.1 Tryz.Ng.2.2.1 (by kernel_rfl) (by kernel_rfl) (by kernel_rfl) (by kernel_rfl)
theorem PY:Tryz.pinned.checked.prog.funcNamed Rows.toothAgesRow.func=some 15:=by kernel_rfl
theorem TO:Tryz.f15.isInstance Tryz.pinned.checked.prog Rows.toothAgesRow.origin Rows.toothAgesRow.targs:=of_decide_eq_true (by kernel_rfl)
theorem TM:Tryz.f15.isWrapper Tryz.pinned.checked.prog Rows.toothAgesRow.wrapper Rows.toothAgesRow.mainSum:=by unfold Func.isWrapper;first | (rw [if_pos (by decide+kernel)];kernel_rfl) | (rw [if_neg (by decide+kernel)];exact⟨rfl,rfl⟩)
theorem TP:true=Rows.toothAgesRow.goesBy Tryz.pinned.checked.prog:=by kernel_rfl
end Go.Proofs.YtboibffcmhheiaaGreatDoor
