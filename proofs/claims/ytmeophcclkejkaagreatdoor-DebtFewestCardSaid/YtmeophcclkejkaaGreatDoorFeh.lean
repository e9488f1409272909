/- DebtFewest states that the payments of Fewest are right and in order: a part (8 of 9) of the proof of its row. -/
import Derived.Test.YtmeophcclkejkaaGreatDoorFeg
set_option linter.all false
set_option maxRecDepth 100000
namespace Go.Proofs.YtmeophcclkejkaaGreatDoor
open Go
theorem NN:((Rows.debtFewestRow.inPlace==Tryz.pinned.checked.prog.inPlace 8)=true)/\((Rows.debtFewestRow.unfollowed==Tryz.pinned.checked.prog.unfollowed 8)=true)/\((Rows.debtFewestRow.recurses==Tryz.pinned.checked.prog.recurses 8)=true)/\((Rows.debtFewestRow.named==Tryz.pinned.checked.prog.varsNamed 8)=true):=⟨by kernel_rfl,by kernel_rfl,by kernel_rfl,by kernel_rfl⟩
theorem Wt:joinedFacts Tryz.pinned.checked.prog 8 Tryz.f8 Rows.debtFewestSpec Rows.debtFewestRow=true:=
 Wy (by kernel_rfl) Tryz.Zj Tryz.dt (by kernel_rfl) (by kernel_rfl) (by kernel_rfl) Tryz.cF (by kernel_rfl) Tryz.dk NN.1 NN.2.1 NN.2.2.1 NN.2.2.2 (by kernel_rfl) (by kernel_rfl) (by kernel_rfl) (by kernel_rfl) (by kernel_rfl) (by kernel_rfl) (by kernel_rfl) (by kernel_rfl) (by kernel_rfl) Tryz.fe (by kernel_rfl) Tryz.eY Tryz.OY.1 Tryz.OY.2.1 Tryz.OY.2.2.1 (by kernel_rfl) (by kernel_rfl) (by kernel_rfl) (by kernel_rfl)
theorem RU:Tryz.pinned.checked.prog.funcNamed Rows.debtFewestRow.func=some 8:=by kernel_rfl
theorem Wv:Tryz.f8.isInstance Tryz.pinned.checked.prog Rows.debtFewestRow.origin Rows.debtFewestRow.targs:=of_decide_eq_true (by kernel_rfl)
theorem Ww:Tryz.f8.isWrapper Tryz.pinned.checked.prog Rows.debtFewestRow.wrapper Rows.debtFewestRow.mainSum:=by unfold Func.isWrapper;first | (rw [if_pos (by decide+kernel)];kernel_rfl) | (rw [if_neg (by decide+kernel)];exact⟨rfl,rfl⟩)
theorem Wu:true=Rows.debtFewestRow.goesBy Tryz.pinned.checked.prog:=by kernel_rfl
end Go.Proofs.YtmeophcclkejkaaGreatDoor
