/- ToothAlikes. Part 7 of 8. -/
import Derived.Test.YtboibffcmhheiaaGreatDoorTof
set_option linter.all false
set_option maxRecDepth 100000
namespace Go.Proofs.YtboibffcmhheiaaGreatDoor
open Go
theorem L4:((Rows.toothAlikesRow.inPlace==Tryz.pinned.checked.prog.inPlace 5)=true)∧((Rows.toothAlikesRow.unfollowed==Tryz.pinned.checked.prog.unfollowed 5)=true)∧((Rows.toothAlikesRow.recurses==Tryz.pinned.checked.prog.recurses 5)=true)∧((Rows.toothAlikesRow.named==Tryz.pinned.checked.prog.varsNamed 5)=true):=⟨by kernel_rfl,by kernel_rfl,by kernel_rfl,by kernel_rfl⟩
theorem TL:joinedFacts Tryz.pinned.checked.prog 5 Tryz.f5 Rows.toothAlikesSpec Rows.toothAlikesRow=true:=
 TP (by kernel_rfl) Tryz.Wb Tryz.ZH (by kernel_rfl) (by kernel_rfl) (by kernel_rfl) Tryz.ZY (by kernel_rfl) Tryz.Z3 L4.1 L4.2.1 L4.2.2.1 L4.2.2.2 (by kernel_rfl) (by kernel_rfl) (by kernel_rfl) (by kernel_rfl) (by kernel_rfl) (by kernel_rfl) (by kernel_rfl) (by kernel_rfl) (by kernel_rfl) Tryz.ab (by kernel_rfl) Tryz.ZW Tryz.Ng.1 Tryz.Ng.2.1 Tryz.Ng.2.2.1 (by kernel_rfl) (by kernel_rfl) (by kernel_rfl) (by kernel_rfl)
theorem PV:Tryz.pinned.checked.prog.funcNamed Rows.toothAlikesRow.func=some 5:=by kernel_rfl
theorem TM:Tryz.f5.isInstance Tryz.pinned.checked.prog Rows.toothAlikesRow.origin Rows.toothAlikesRow.targs:=of_decide_eq_true (by kernel_rfl)
theorem TN:Tryz.f5.isWrapper Tryz.pinned.checked.prog Rows.toothAlikesRow.wrapper Rows.toothAlikesRow.mainSum:=by unfold Func.isWrapper;first | (rw [if_pos (by decide+kernel)];kernel_rfl) | (rw [if_neg (by decide+kernel)];exact⟨rfl,rfl⟩)
theorem TO:true=Rows.toothAlikesRow.goesBy Tryz.pinned.checked.prog:=by kernel_rfl
end Go.Proofs.YtboibffcmhheiaaGreatDoor
