/- DebtPennies is true for every input: if all coins are one pound: a part (8 of 9) of the proof of its row. -/
import Derived.Test.YtkcbafbhngehjaaGreatPng
set_option linter.all false
set_option maxRecDepth 100000
namespace Go.Proofs.YtkcbafbhngehjaaGreat
open Go
theorem Oz:((Rows.debtPenniesRow.inPlace==Tryz.pinned.checked.prog.inPlace 3)=true)/\((Rows.debtPenniesRow.unfollowed==Tryz.pinned.checked.prog.unfollowed 3)=true)/\((Rows.debtPenniesRow.recurses==Tryz.pinned.checked.prog.recurses 3)=true)/\((Rows.debtPenniesRow.named==Tryz.pinned.checked.prog.varsNamed 3)=true):=⟨by kernel_rfl,by kernel_rfl,by kernel_rfl,by kernel_rfl⟩
theorem XN:joinedFacts Tryz.pinned.checked.prog 3 Tryz.f3 Rows.debtPenniesSpec Rows.debtPenniesRow=true:=
 XR (by kernel_rfl) Tryz.ZZ Tryz.gJ (by kernel_rfl) (by kernel_rfl) (by kernel_rfl) Tryz.gQ (by kernel_rfl) Tryz.eS Oz.1 Oz.2.1 Oz.2.2.1 Oz.2.2.2 (by kernel_rfl) (by kernel_rfl) (by kernel_rfl) (by kernel_rfl) (by kernel_rfl) (by kernel_rfl) (by kernel_rfl) (by kernel_rfl) (by kernel_rfl) Tryz.iO (by kernel_rfl) Tryz.fx Tryz.Sf.1 Tryz.Sf.2.1 Tryz.Sf.2.2 (by kernel_rfl) (by kernel_rfl) (by kernel_rfl) (by kernel_rfl)
theorem XM:Tryz.pinned.checked.prog.funcNamed Rows.debtPenniesRow.func=some 3:=by kernel_rfl
theorem XP:Tryz.f3.isInstance Tryz.pinned.checked.prog Rows.debtPenniesRow.origin Rows.debtPenniesRow.targs:=of_decide_eq_true (by kernel_rfl)
theorem XO:Tryz.f3.isWrapper Tryz.pinned.checked.prog Rows.debtPenniesRow.wrapper Rows.debtPenniesRow.mainSum:=by unfold Func.isWrapper;first | (rw [if_pos (by decide+kernel)];kernel_rfl) | (rw [if_neg (by decide+kernel)];exact⟨rfl,rfl⟩)
end Go.Proofs.YtkcbafbhngehjaaGreat
