/- ToothYears answers true for every list of numbers, on every schedule; without a condition beyond those of the given row and card. Part 7 of 8. -/
import Derived.Test.YtboibffcmhheiaaGreatDoorYef
set_option linter.all false
set_option maxRecDepth 100000
namespace Go.Proofs.YtboibffcmhheiaaGreatDoor
open Go
theorem Hs:((Rows.toothYearsRow.inPlace==Tryz.pinned.checked.prog.inPlace 19)=true)∧((Rows.toothYearsRow.unfollowed==Tryz.pinned.checked.prog.unfollowed 19)=true)∧((Rows.toothYearsRow.recurses==Tryz.pinned.checked.prog.recurses 19)=true)∧((Rows.toothYearsRow.named==Tryz.pinned.checked.prog.varsNamed 19)=true):=⟨by kernel_rfl,by kernel_rfl,by kernel_rfl,by kernel_rfl⟩
theorem Nq:joinedFacts Tryz.pinned.checked.prog 19 Tryz.f19 Rows.toothYearsSpec Rows.toothYearsRow=true:=
 Nw (by kernel_rfl) Tryz.O2 Tryz.QX (by kernel_rfl) (by kernel_rfl) (by kernel_rfl) Tryz.Qu (by kernel_rfl) Tryz.Qq Hs.1 Hs.2.1 Hs.2.2.1 Hs.2.2.2 (by kernel_rfl) (by kernel_rfl) (by kernel_rfl) (by kernel_rfl) (by kernel_rfl) (by kernel_rfl) (by kernel_rfl) (by kernel_rfl) (by kernel_rfl) Tryz.R2 (by kernel_rfl) Tryz.Qo Tryz.H0.1 Tryz.H0.2.1 Tryz.H0.2.2.1 (by kernel_rfl) (by kernel_rfl) (by kernel_rfl) (by kernel_rfl)
theorem J0:Tryz.pinned.checked.prog.funcNamed Rows.toothYearsRow.func=some 19:=by kernel_rfl
theorem Nt:Tryz.f19.isInstance Tryz.pinned.checked.prog Rows.toothYearsRow.origin Rows.toothYearsRow.targs:=of_decide_eq_true (by kernel_rfl)
theorem Ns:Tryz.f19.isWrapper Tryz.pinned.checked.prog Rows.toothYearsRow.wrapper Rows.toothYearsRow.mainSum:=by unfold Func.isWrapper;first | (rw [if_pos (by decide+kernel)];kernel_rfl) | (rw [if_neg (by decide+kernel)];exact⟨rfl,rfl⟩)
theorem Nu:true=Rows.toothYearsRow.goesBy Tryz.pinned.checked.prog:=by kernel_rfl
end Go.Proofs.YtboibffcmhheiaaGreatDoor
