/- DebtKnown states that the examples of the chapter have the results given there.: a part (8 of 9) of the proof of its row. -/
import Derived.Test.YtmeophcclkejkaaGreatDoorKng
set_option linter.all false
set_option maxRecDepth 100000
namespace Go.Proofs.YtmeophcclkejkaaGreatDoor
open Go
theorem Mx:((Rows.debtKnownRow.inPlace==Tryz.pinned.checked.prog.inPlace 9)=true)/\((Rows.debtKnownRow.unfollowed==Tryz.pinned.checked.prog.unfollowed 9)=true)/\((Rows.debtKnownRow.recurses==Tryz.pinned.checked.prog.recurses 9)=true)/\((Rows.debtKnownRow.named==Tryz.pinned.checked.prog.varsNamed 9)=true):=⟨by kernel_rfl,by kernel_rfl,by kernel_rfl,by kernel_rfl⟩
theorem UC:joinedFacts Tryz.pinned.checked.prog 9 Tryz.f9 Rows.debtKnownSpec Rows.debtKnownRow=true:=
 UH (by kernel_rfl) Tryz.WV Tryz.Zr (by kernel_rfl) (by kernel_rfl) (by kernel_rfl) Tryz.au (by kernel_rfl) Tryz.Z8 Mx.1 Mx.2.1 Mx.2.2.1 Mx.2.2.2 (by kernel_rfl) (by kernel_rfl) (by kernel_rfl) (by kernel_rfl) (by kernel_rfl) (by kernel_rfl) (by kernel_rfl) (by kernel_rfl) (by kernel_rfl) Tryz.aQ (by kernel_rfl) Tryz.Zf Tryz.Nn.1 Tryz.Nn.2.1 Tryz.Nn.2.2.1 (by kernel_rfl) (by kernel_rfl) (by kernel_rfl) (by kernel_rfl)
theorem Qi:Tryz.pinned.checked.prog.funcNamed Rows.debtKnownRow.func=some 9:=by kernel_rfl
theorem UD:Tryz.f9.isInstance Tryz.pinned.checked.prog Rows.debtKnownRow.origin Rows.debtKnownRow.targs:=of_decide_eq_true (by kernel_rfl)
theorem UG:Tryz.f9.isWrapper Tryz.pinned.checked.prog Rows.debtKnownRow.wrapper Rows.debtKnownRow.mainSum:=by unfold Func.isWrapper;first | (rw [if_pos (by decide+kernel)];kernel_rfl) | (rw [if_neg (by decide+kernel)];exact⟨rfl,rfl⟩)
theorem UF:true=Rows.debtKnownRow.goesBy Tryz.pinned.checked.prog:=by kernel_rfl
end Go.Proofs.YtmeophcclkejkaaGreatDoor
