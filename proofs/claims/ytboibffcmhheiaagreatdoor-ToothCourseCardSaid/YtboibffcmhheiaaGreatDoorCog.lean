/- ToothCourse answers true for every list of numbers, on every schedule; without a condition beyond those of the given row and card. Part 7 of 8. -/
import Derived.Test.YtboibffcmhheiaaGreatDoorCof
set_option linter.all false
set_option maxRecDepth 100000
namespace Go.Proofs.YtboibffcmhheiaaGreatDoor
open Go
theorem H2:((Rows.toothCourseRow.inPlace==Tryz.pinned.checked.prog.inPlace 9)=true)∧((Rows.toothCourseRow.unfollowed==Tryz.pinned.checked.prog.unfollowed 9)=true)∧((Rows.toothCourseRow.recurses==Tryz.pinned.checked.prog.recurses 9)=true)∧((Rows.toothCourseRow.named==Tryz.pinned.checked.prog.varsNamed 9)=true):=⟨by kernel_rfl,by kernel_rfl,by kernel_rfl,by kernel_rfl⟩
theorem Oc:joinedFacts Tryz.pinned.checked.prog 9 Tryz.f9 Rows.toothCourseSpec Rows.toothCourseRow=true:=
 Og (by kernel_rfl) Tryz.PQ Tryz.Sl (by kernel_rfl) (by kernel_rfl) (by kernel_rfl) Tryz.Rf (by kernel_rfl) Tryz.RF H2.1 H2.2.1 H2.2.2.1 H2.2.2.2 (by kernel_rfl) (by kernel_rfl) (by kernel_rfl) (by kernel_rfl) (by kernel_rfl) (by kernel_rfl) (by kernel_rfl) (by kernel_rfl) (by kernel_rfl) Tryz.SJ (by kernel_rfl) Tryz.RP Tryz.IT.1 Tryz.IT.2.1 Tryz.IT.2.2.1 (by kernel_rfl) (by kernel_rfl) (by kernel_rfl) (by kernel_rfl)
theorem KS:Tryz.pinned.checked.prog.funcNamed Rows.toothCourseRow.func=some 9:=by kernel_rfl
theorem Oe:Tryz.f9.isInstance Tryz.pinned.checked.prog Rows.toothCourseRow.origin Rows.toothCourseRow.targs:=of_decide_eq_true (by kernel_rfl)
theorem Of:Tryz.f9.isWrapper Tryz.pinned.checked.prog Rows.toothCourseRow.wrapper Rows.toothCourseRow.mainSum:=by unfold Func.isWrapper;first | (rw [if_pos (by decide+kernel)];kernel_rfl) | (rw [if_neg (by decide+kernel)];exact⟨rfl,rfl⟩)
theorem Od:true=Rows.toothCourseRow.goesBy Tryz.pinned.checked.prog:=by kernel_rfl
end Go.Proofs.YtboibffcmhheiaaGreatDoor
