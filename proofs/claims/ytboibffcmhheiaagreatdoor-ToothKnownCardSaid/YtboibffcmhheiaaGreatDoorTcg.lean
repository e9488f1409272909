/- ToothKnown: the examples of the chapter have the results given there Part 7 of 8. -/
import Derived.Test.YtboibffcmhheiaaGreatDoorTcf
set_option linter.all false
set_option maxRecDepth 100000
namespace Go.Proofs.YtboibffcmhheiaaGreatDoor
open Go
theorem J8:((Rows.toothKnownRow.inPlace==Tryz.pinned.checked.prog.inPlace 20)=true)∧((Rows.toothKnownRow.unfollowed==Tryz.pinned.checked.prog.unfollowed 20)=true)∧((Rows.toothKnownRow.recurses==Tryz.pinned.checked.prog.recurses 20)=true)∧((Rows.toothKnownRow.named==Tryz.pinned.checked.prog.varsNamed 20)=true):=⟨by kernel_rfl,by kernel_rfl,by kernel_rfl,by kernel_rfl⟩
theorem Ql:joinedFacts Tryz.pinned.checked.prog 20 Tryz.f20 Rows.toothKnownSpec Rows.toothKnownRow=true:=
 Qq (by kernel_rfl) Tryz.R6 Tryz.T4 (by kernel_rfl) (by kernel_rfl) (by kernel_rfl) Tryz.TK (by kernel_rfl) Tryz.Ur J8.1 J8.2.1 J8.2.2.1 J8.2.2.2 (by kernel_rfl) (by kernel_rfl) (by kernel_rfl) (by kernel_rfl) (by kernel_rfl) (by kernel_rfl) (by kernel_rfl) (by kernel_rfl) (by kernel_rfl) Tryz.UK (by kernel_rfl) Tryz.Un Tryz.KN.1 Tryz.KN.2.1 Tryz.KN.2.2.1 (by kernel_rfl) (by kernel_rfl) (by kernel_rfl) (by kernel_rfl)
theorem MW:Tryz.pinned.checked.prog.funcNamed Rows.toothKnownRow.func=some 20:=by kernel_rfl
theorem Qn:Tryz.f20.isInstance Tryz.pinned.checked.prog Rows.toothKnownRow.origin Rows.toothKnownRow.targs:=of_decide_eq_true (by kernel_rfl)
theorem Qo:Tryz.f20.isWrapper Tryz.pinned.checked.prog Rows.toothKnownRow.wrapper Rows.toothKnownRow.mainSum:=by unfold Func.isWrapper;first | (rw [if_pos (by decide+kernel)];kernel_rfl) | (rw [if_neg (by decide+kernel)];exact⟨rfl,rfl⟩)
theorem Qp:true=Rows.toothKnownRow.goesBy Tryz.pinned.checked.prog:=by kernel_rfl
end Go.Proofs.YtboibffcmhheiaaGreatDoor
