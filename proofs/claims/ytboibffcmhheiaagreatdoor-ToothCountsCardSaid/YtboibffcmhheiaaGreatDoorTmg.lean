/- toothCounts_card. Part 7 of 8. -/
import Derived.Test.YtboibffcmhheiaaGreatDoorTmf
set_option linter.all false
set_option maxRecDepth 100000
namespace Go.Proofs.YtboibffcmhheiaaGreatDoor
open Go
theorem L8:((Rows.toothCountsRow.inPlace==Tryz.pinned.checked.prog.inPlace 3)=true)∧((Rows.toothCountsRow.unfollowed==Tryz.pinned.checked.prog.unfollowed 3)=true)∧((Rows.toothCountsRow.recurses==Tryz.pinned.checked.prog.recurses 3)=true)∧((Rows.toothCountsRow.named==Tryz.pinned.checked.prog.varsNamed 3)=true):=⟨by kernel_rfl,by kernel_rfl,by kernel_rfl,by kernel_rfl⟩
theorem TX:joinedFacts Tryz.pinned.checked.prog 3 Tryz.f3 Rows.toothCountsSpec Rows.toothCountsRow=true:=
 T2 (by kernel_rfl) Tryz.WZ Tryz.Zb (by kernel_rfl) (by kernel_rfl) (by kernel_rfl) Tryz.Zs (by kernel_rfl) Tryz.ak L8.1 L8.2.1 L8.2.2.1 L8.2.2.2 (by kernel_rfl) (by kernel_rfl) (by kernel_rfl) (by kernel_rfl) (by kernel_rfl) (by kernel_rfl) (by kernel_rfl) (by kernel_rfl) (by kernel_rfl) Tryz.aK (by kernel_rfl) Tryz.ZF Tryz.MT.1 Tryz.MT.2.1 Tryz.MT.2.2.1 (by kernel_rfl) (by kernel_rfl) (by kernel_rfl) (by kernel_rfl)
theorem PU:Tryz.pinned.checked.prog.funcNamed Rows.toothCountsRow.func=some 3:=by kernel_rfl
theorem T0:Tryz.f3.isInstance Tryz.pinned.checked.prog Rows.toothCountsRow.origin Rows.toothCountsRow.targs:=of_decide_eq_true (by kernel_rfl)
theorem TZ:Tryz.f3.isWrapper Tryz.pinned.checked.prog Rows.toothCountsRow.wrapper Rows.toothCountsRow.mainSum:=by unfold Func.isWrapper;first | (rw [if_pos (by decide+kernel)];kernel_rfl) | (rw [if_neg (by decide+kernel)];exact⟨rfl,rfl⟩)
theorem T1:true=Rows.toothCountsRow.goesBy Tryz.pinned.checked.prog:=by kernel_rfl
end Go.Proofs.YtboibffcmhheiaaGreatDoor
