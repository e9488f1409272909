/- ToothCheats Part 7 of 8. -/
import Derived.Test.YtboibffcmhheiaaGreatDoorTsf
set_option linter.all false
set_option maxRecDepth 100000
namespace Go.Proofs.YtboibffcmhheiaaGreatDoor
open Go
theorem H8:((Rows.toothCheatsRow.inPlace==Tryz.pinned.checked.prog.inPlace 13)=true)∧((Rows.toothCheatsRow.unfollowed==Tryz.pinned.checked.prog.unfollowed 13)=true)∧((Rows.toothCheatsRow.recurses==Tryz.pinned.checked.prog.recurses 13)=true)∧((Rows.toothCheatsRow.named==Tryz.pinned.checked.prog.varsNamed 13)=true):=⟨by kernel_rfl,by kernel_rfl,by kernel_rfl,by kernel_rfl⟩
theorem O2:joinedFacts Tryz.pinned.checked.prog 13 Tryz.f13 Rows.toothCheatsSpec Rows.toothCheatsRow=true:=
 O7 (by kernel_rfl) Tryz.QG Tryz.S5 (by kernel_rfl) (by kernel_rfl) (by kernel_rfl) Tryz.Tp (by kernel_rfl) Tryz.SS H8.1 H8.2.1 H8.2.2.1 H8.2.2.2 (by kernel_rfl) (by kernel_rfl) (by kernel_rfl) (by kernel_rfl) (by kernel_rfl) (by kernel_rfl) (by kernel_rfl) (by kernel_rfl) (by kernel_rfl) Tryz.TI (by kernel_rfl) Tryz.SY Tryz.I5.1 Tryz.I5.2.1 Tryz.I5.2.2.1 (by kernel_rfl) (by kernel_rfl) (by kernel_rfl) (by kernel_rfl)
theorem Lq:Tryz.pinned.checked.prog.funcNamed Rows.toothCheatsRow.func=some 13:=by kernel_rfl
theorem O5:Tryz.f13.isInstance Tryz.pinned.checked.prog Rows.toothCheatsRow.origin Rows.toothCheatsRow.targs:=of_decide_eq_true (by kernel_rfl)
theorem O6:Tryz.f13.isWrapper Tryz.pinned.checked.prog Rows.toothCheatsRow.wrapper Rows.toothCheatsRow.mainSum:=by unfold Func.isWrapper;first | (rw [if_pos (by decide+kernel)];kernel_rfl) | (rw [if_neg (by decide+kernel)];exact⟨rfl,rfl⟩)
theorem O4:true=Rows.toothCheatsRow.goesBy Tryz.pinned.checked.prog:=by kernel_rfl
end Go.Proofs.YtboibffcmhheiaaGreatDoor
