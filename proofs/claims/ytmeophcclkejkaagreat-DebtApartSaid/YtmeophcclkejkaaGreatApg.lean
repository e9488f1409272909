/- DebtApart, row of debt: for every input the law is true and its argument reads behind the call as before it. Part 7 of 8. -/
import Derived.Test.YtmeophcclkejkaaGreatApf
set_option linter.all false
set_option maxRecDepth 100000
namespace Go.Proofs.YtmeophcclkejkaaGreat
open Go
theorem ML:((Rows.debtApartRow.inPlace==Tryz.pinned.checked.prog.inPlace 16)=true)/\((Rows.debtApartRow.unfollowed==Tryz.pinned.checked.prog.unfollowed 16)=true)/\((Rows.debtApartRow.recurses==Tryz.pinned.checked.prog.recurses 16)=true)/\((Rows.debtApartRow.named==Tryz.pinned.checked.prog.varsNamed 16)=true):=⟨by kernel_rfl,by kernel_rfl,by kernel_rfl,by kernel_rfl⟩
theorem Uy:joinedFacts Tryz.pinned.checked.prog 16 Tryz.f16 Rows.debtApartSpec Rows.debtApartRow=true:=
 UB (by kernel_rfl) Tryz.WB Tryz.Zm (by kernel_rfl) (by kernel_rfl) (by kernel_rfl) Tryz.Zz (by kernel_rfl) Tryz.Y3 ML.1 ML.2.1 ML.2.2.1 ML.2.2.2 (by kernel_rfl) (by kernel_rfl) (by kernel_rfl) (by kernel_rfl) (by kernel_rfl) (by kernel_rfl) (by kernel_rfl) (by kernel_rfl) (by kernel_rfl) Tryz.bA (by kernel_rfl) Tryz.YU Tryz.PS.1 Tryz.PS.2.1 Tryz.PS.2.2 (by kernel_rfl) (by kernel_rfl) (by kernel_rfl) (by kernel_rfl)
theorem Uz:Tryz.pinned.checked.prog.funcNamed Rows.debtApartRow.func=some 16:=by kernel_rfl
theorem UA:Tryz.f16.isInstance Tryz.pinned.checked.prog Rows.debtApartRow.origin Rows.debtApartRow.targs:=of_decide_eq_true (by kernel_rfl)
theorem UC:Tryz.f16.isWrapper Tryz.pinned.checked.prog Rows.debtApartRow.wrapper Rows.debtApartRow.mainSum:=by unfold Func.isWrapper;first | (rw [if_pos (by decide+kernel)];kernel_rfl) | (rw [if_neg (by decide+kernel)];exact⟨rfl,rfl⟩)
end Go.Proofs.YtmeophcclkejkaaGreat
