/- DebtNets: a part (8 of 9) of the proof of its row. -/
import Derived.Test.YtmeophcclkejkaaGreatNeg
set_option linter.all false
set_option maxRecDepth 100000
namespace Go.Proofs.YtmeophcclkejkaaGreat
open Go
theorem Mm:((Rows.debtNetsRow.inPlace==Tryz.pinned.checked.prog.inPlace 9)=true)/\((Rows.debtNetsRow.unfollowed==Tryz.pinned.checked.prog.unfollowed 9)=true)/\((Rows.debtNetsRow.recurses==Tryz.pinned.checked.prog.recurses 9)=true)/\((Rows.debtNetsRow.named==Tryz.pinned.checked.prog.varsNamed 9)=true):=⟨by kernel_rfl,by kernel_rfl,by kernel_rfl,by kernel_rfl⟩
theorem Uf:joinedFacts Tryz.pinned.checked.prog 9 Tryz.f9 Rows.debtNetsSpec Rows.debtNetsRow=true:=
 Uh (by kernel_rfl) Tryz.Wj Tryz.Ym (by kernel_rfl) (by kernel_rfl) (by kernel_rfl) Tryz.Zs (by kernel_rfl) Tryz.Zf Mm.1 Mm.2.1 Mm.2.2.1 Mm.2.2.2 (by kernel_rfl) (by kernel_rfl) (by kernel_rfl) (by kernel_rfl) (by kernel_rfl) (by kernel_rfl) (by kernel_rfl) (by kernel_rfl) (by kernel_rfl) Tryz.ZV (by kernel_rfl) Tryz.ZB Tryz.Pf.1 Tryz.Pf.2.1 Tryz.Pf.2.2 (by kernel_rfl) (by kernel_rfl) (by kernel_rfl) (by kernel_rfl)
theorem Ug:Tryz.pinned.checked.prog.funcNamed Rows.debtNetsRow.func=some 9:=by kernel_rfl
theorem Un:Tryz.f9.isInstance Tryz.pinned.checked.prog Rows.debtNetsRow.origin Rows.debtNetsRow.targs:=of_decide_eq_true (by kernel_rfl)
theorem Uk:Tryz.f9.isWrapper Tryz.pinned.checked.prog Rows.debtNetsRow.wrapper Rows.debtNetsRow.mainSum:=by unfold Func.isWrapper;first | (rw [if_pos (by decide+kernel)];kernel_rfl) | (rw [if_neg (by decide+kernel)];exact⟨rfl,rfl⟩)
end Go.Proofs.YtmeophcclkejkaaGreat
