/- DebtAdds, row of debt: for every input the law is true and its arguments read behind the call as before it. Part 8 of 9. -/
import Derived.Test.YtmeophcclkejkaaGreatAdg
set_option linter.all false
set_option maxRecDepth 100000
namespace Go.Proofs.YtmeophcclkejkaaGreat
open Go
theorem L5:((Rows.debtAddsRow.inPlace==Tryz.pinned.checked.prog.inPlace 8)=true)/\((Rows.debtAddsRow.unfollowed==Tryz.pinned.checked.prog.unfollowed 8)=true)/\((Rows.debtAddsRow.recurses==Tryz.pinned.checked.prog.recurses 8)=true)/\((Rows.debtAddsRow.named==Tryz.pinned.checked.prog.varsNamed 8)=true):=⟨by kernel_rfl,by kernel_rfl,by kernel_rfl,by kernel_rfl⟩
theorem Tv:joinedFacts Tryz.pinned.checked.prog 8 Tryz.f8 Rows.debtAddsSpec Rows.debtAddsRow=true:=
 Tu (by kernel_rfl) Tryz.VM Tryz.Xk (by kernel_rfl) (by kernel_rfl) (by kernel_rfl) Tryz.XY (by kernel_rfl) Tryz.Xb L5.1 L5.2.1 L5.2.2.1 L5.2.2.2 (by kernel_rfl) (by kernel_rfl) (by kernel_rfl) (by kernel_rfl) (by kernel_rfl) (by kernel_rfl) (by kernel_rfl) (by kernel_rfl) (by kernel_rfl) Tryz.Y6 (by kernel_rfl) Tryz.Xs Tryz.OR.1 Tryz.OR.2.1 Tryz.OR.2.2 (by kernel_rfl) (by kernel_rfl) (by kernel_rfl) (by kernel_rfl)
theorem Tw:Tryz.pinned.checked.prog.funcNamed Rows.debtAddsRow.func=some 8:=by kernel_rfl
theorem TF:Tryz.f8.isInstance Tryz.pinned.checked.prog Rows.debtAddsRow.origin Rows.debtAddsRow.targs:=of_decide_eq_true (by kernel_rfl)
theorem TC:Tryz.f8.isWrapper Tryz.pinned.checked.prog Rows.debtAddsRow.wrapper Rows.debtAddsRow.mainSum:=by unfold Func.isWrapper;first | (rw [if_pos (by decide+kernel)];kernel_rfl) | (rw [if_neg (by decide+kernel)];exact⟨rfl,rfl⟩)
end Go.Proofs.YtmeophcclkejkaaGreat
