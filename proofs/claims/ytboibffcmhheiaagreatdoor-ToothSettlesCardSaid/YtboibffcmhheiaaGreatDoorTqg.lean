/- ToothSettles. Part 7 of 8. -/
import Derived.Test.YtboibffcmhheiaaGreatDoorTqf
set_option linter.all false
set_option maxRecDepth 100000
namespace Go.Proofs.YtboibffcmhheiaaGreatDoor
open Go
theorem Mo:((Rows.toothSettlesRow.inPlace==Tryz.pinned.checked.prog.inPlace 4)=true)∧((Rows.toothSettlesRow.unfollowed==Tryz.pinned.checked.prog.unfollowed 4)=true)∧((Rows.toothSettlesRow.recurses==Tryz.pinned.checked.prog.recurses 4)=true)∧((Rows.toothSettlesRow.named==Tryz.pinned.checked.prog.varsNamed 4)=true):=⟨by kernel_rfl,by kernel_rfl,by kernel_rfl,by kernel_rfl⟩
theorem Ua:joinedFacts Tryz.pinned.checked.prog 4 Tryz.f4 Rows.toothSettlesSpec Rows.toothSettlesRow=true:=
 Uf (by kernel_rfl) Tryz.WQ Tryz.aw (by kernel_rfl) (by kernel_rfl) (by kernel_rfl) Tryz.Zu (by kernel_rfl) Tryz.au Mo.1 Mo.2.1 Mo.2.2.1 Mo.2.2.2 (by kernel_rfl) (by kernel_rfl) (by kernel_rfl) (by kernel_rfl) (by kernel_rfl) (by kernel_rfl) (by kernel_rfl) (by kernel_rfl) (by kernel_rfl) Tryz.bD (by kernel_rfl) Tryz.ZL Tryz.NK.1 Tryz.NK.2.1 Tryz.NK.2.2.1 (by kernel_rfl) (by kernel_rfl) (by kernel_rfl) (by kernel_rfl)
theorem Qm:Tryz.pinned.checked.prog.funcNamed Rows.toothSettlesRow.func=some 4:=by kernel_rfl
theorem Ub:Tryz.f4.isInstance Tryz.pinned.checked.prog Rows.toothSettlesRow.origin Rows.toothSettlesRow.targs:=of_decide_eq_true (by kernel_rfl)
theorem Ud:Tryz.f4.isWrapper Tryz.pinned.checked.prog Rows.toothSettlesRow.wrapper Rows.toothSettlesRow.mainSum:=by unfold Func.isWrapper;first | (rw [if_pos (by decide+kernel)];kernel_rfl) | (rw [if_neg (by decide+kernel)];exact⟨rfl,rfl⟩)
theorem Uc:true=Rows.toothSettlesRow.goesBy Tryz.pinned.checked.prog:=by kernel_rfl
end Go.Proofs.YtboibffcmhheiaaGreatDoor
