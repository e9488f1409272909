/- DebtKept states that all nets together are 0: a part (8 of 9) of the proof of its row. -/
import Derived.Test.YtmeophcclkejkaaGreatDoorKeg
set_option linter.all false
set_option maxRecDepth 100000
namespace Go.Proofs.YtmeophcclkejkaaGreatDoor
open Go
theorem MI:((Rows.debtKeptRow.inPlace==Tryz.pinned.checked.prog.inPlace 3)=true)/\((Rows.debtKeptRow.unfollowed==Tryz.pinned.checked.prog.unfollowed 3)=true)/\((Rows.debtKeptRow.recurses==Tryz.pinned.checked.prog.recurses 3)=true)/\((Rows.debtKeptRow.named==Tryz.pinned.checked.prog.varsNamed 3)=true):=⟨by kernel_rfl,by kernel_rfl,by kernel_rfl,by kernel_rfl⟩
theorem UB:joinedFacts Tryz.pinned.checked.prog 3 Tryz.f3 Rows.debtKeptSpec Rows.debtKeptRow=true:=
 UE (by kernel_rfl) Tryz.Xr Tryz.ZK (by kernel_rfl) (by kernel_rfl) (by kernel_rfl) Tryz.Zv (by kernel_rfl) Tryz.aP MI.1 MI.2.1 MI.2.2.1 MI.2.2.2 (by kernel_rfl) (by kernel_rfl) (by kernel_rfl) (by kernel_rfl) (by kernel_rfl) (by kernel_rfl) (by kernel_rfl) (by kernel_rfl) (by kernel_rfl) Tryz.bZ (by kernel_rfl) Tryz.aB Tryz.NF.1 Tryz.NF.2.1 Tryz.NF.2.2.1 (by kernel_rfl) (by kernel_rfl) (by kernel_rfl) (by kernel_rfl)
theorem Qm:Tryz.pinned.checked.prog.funcNamed Rows.debtKeptRow.func=some 3:=by kernel_rfl
theorem UJ:Tryz.f3.isInstance Tryz.pinned.checked.prog Rows.debtKeptRow.origin Rows.debtKeptRow.targs:=of_decide_eq_true (by kernel_rfl)
theorem UK:Tryz.f3.isWrapper Tryz.pinned.checked.prog Rows.debtKeptRow.wrapper Rows.debtKeptRow.mainSum:=by unfold Func.isWrapper;first | (rw [if_pos (by decide+kernel)];kernel_rfl) | (rw [if_neg (by decide+kernel)];exact⟨rfl,rfl⟩)
theorem UL:true=Rows.debtKeptRow.goesBy Tryz.pinned.checked.prog:=by kernel_rfl
end Go.Proofs.YtmeophcclkejkaaGreatDoor
