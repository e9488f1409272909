/- TopClaimed: the claims of a book as words of vouchers: a part (7 of 8) of the proof of its row. -/
import Derived.Test.YtckjhfngndgdbaaGreatClf
set_option linter.all false
set_option maxRecDepth 100000
namespace Go.Proofs.YtckjhfngndgdbaaGreat
open Go
theorem Ll:((Rows.topClaimedRow.inPlace==Tryz.pinned.checked.prog.inPlace 3)=true)/\((Rows.topClaimedRow.unfollowed==Tryz.pinned.checked.prog.unfollowed 3)=true)/\((Rows.topClaimedRow.recurses==Tryz.pinned.checked.prog.recurses 3)=true)/\((Rows.topClaimedRow.named==Tryz.pinned.checked.prog.varsNamed 3)=true):=⟨by kernel_rfl,by kernel_rfl,by kernel_rfl,by kernel_rfl⟩
theorem Rb:joinedFacts Tryz.pinned.checked.prog 3 Tryz.f3 Rows.topClaimedSpec Rows.topClaimedRow=true:=
 Rh (by kernel_rfl) Tryz.TM Tryz.VX (by kernel_rfl) (by kernel_rfl) (by kernel_rfl) Tryz.Wm (by kernel_rfl) Tryz.Wa Ll.1 Ll.2.1 Ll.2.2.1 Ll.2.2.2 (by kernel_rfl) (by kernel_rfl) (by kernel_rfl) (by kernel_rfl) (by kernel_rfl) (by kernel_rfl) (by kernel_rfl) (by kernel_rfl) (by kernel_rfl) Tryz.WX (by kernel_rfl) Tryz.Wv Tryz.N7.1 Tryz.N7.2.1 Tryz.N7.2.2 (by kernel_rfl) (by kernel_rfl) (by kernel_rfl) (by kernel_rfl)
theorem Ra:Tryz.pinned.checked.prog.funcNamed Rows.topClaimedRow.func=some 3:=by kernel_rfl
theorem Rd:Tryz.f3.isInstance Tryz.pinned.checked.prog Rows.topClaimedRow.origin Rows.topClaimedRow.targs:=of_decide_eq_true (by kernel_rfl)
theorem Re:Tryz.f3.isWrapper Tryz.pinned.checked.prog Rows.topClaimedRow.wrapper Rows.topClaimedRow.mainSum:=by unfold Func.isWrapper;first | (rw [if_pos (by decide+kernel)];kernel_rfl) | (rw [if_neg (by decide+kernel)];exact⟨rfl,rfl⟩)
end Go.Proofs.YtckjhfngndgdbaaGreat
