/- ToothCheat answers true for every list of numbers, on every schedule; without a condition beyond those of the given row and card. Part 7 of 8. -/
import Derived.Test.YtboibffcmhheiaaGreatDoorChf
set_option linter.all false
set_option maxRecDepth 100000
namespace Go.Proofs.YtboibffcmhheiaaGreatDoor
open Go
theorem Hs:((Rows.toothCheatRow.inPlace==Tryz.pinned.checked.prog.inPlace 14)=true)∧((Rows.toothCheatRow.unfollowed==Tryz.pinned.checked.prog.unfollowed 14)=true)∧((Rows.toothCheatRow.recurses==Tryz.pinned.checked.prog.recurses 14)=true)∧((Rows.toothCheatRow.named==Tryz.pinned.checked.prog.varsNamed 14)=true):=⟨by kernel_rfl,by kernel_rfl,by kernel_rfl,by kernel_rfl⟩
theorem Nm:joinedFacts Tryz.pinned.checked.prog 14 Tryz.f14 Rows.toothCheatSpec Rows.toothCheatRow=true:=
 Nq (by kernel_rfl) Tryz.OF Tryz.QE (by kernel_rfl) (by kernel_rfl) (by kernel_rfl) Tryz.Q9 (by kernel_rfl) Tryz.QU Hs.1 Hs.2.1 Hs.2.2.1 Hs.2.2.2 (by kernel_rfl) (by kernel_rfl) (by kernel_rfl) (by kernel_rfl) (by kernel_rfl) (by kernel_rfl) (by kernel_rfl) (by kernel_rfl) (by kernel_rfl) Tryz.RO (by kernel_rfl) Tryz.Q4 Tryz.HZ.1 Tryz.HZ.2.1 Tryz.HZ.2.2.1 (by kernel_rfl) (by kernel_rfl) (by kernel_rfl) (by kernel_rfl)
theorem JZ:Tryz.pinned.checked.prog.funcNamed Rows.toothCheatRow.func=some 14:=by kernel_rfl
theorem No:Tryz.f14.isInstance Tryz.pinned.checked.prog Rows.toothCheatRow.origin Rows.toothCheatRow.targs:=of_decide_eq_true (by kernel_rfl)
theorem Nn:Tryz.f14.isWrapper Tryz.pinned.checked.prog Rows.toothCheatRow.wrapper Rows.toothCheatRow.mainSum:=by unfold Func.isWrapper;first | (rw [if_pos (by decide+kernel)];kernel_rfl) | (rw [if_neg (by decide+kernel)];exact⟨rfl,rfl⟩)
theorem Np:true=Rows.toothCheatRow.goesBy Tryz.pinned.checked.prog:=by kernel_rfl
end Go.Proofs.YtboibffcmhheiaaGreatDoor
