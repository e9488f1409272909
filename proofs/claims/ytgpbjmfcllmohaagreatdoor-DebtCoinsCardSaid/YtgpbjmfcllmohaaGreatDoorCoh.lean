/- DebtCoins: a part (8 of 9) of the proof of its row. -/
import Derived.Test.YtgpbjmfcllmohaaGreatDoorCog
set_option linter.all false
set_option maxRecDepth 100000
namespace Go.Proofs.YtgpbjmfcllmohaaGreatDoor
open Go
theorem Oq:((Rows.debtCoinsRow.inPlace==Tryz.pinned.checked.prog.inPlace 3)=true)/\((Rows.debtCoinsRow.unfollowed==Tryz.pinned.checked.prog.unfollowed 3)=true)/\((Rows.debtCoinsRow.recurses==Tryz.pinned.checked.prog.recurses 3)=true)/\((Rows.debtCoinsRow.named==Tryz.pinned.checked.prog.varsNamed 3)=true):=⟨by kernel_rfl,by kernel_rfl,by kernel_rfl,by kernel_rfl⟩
theorem XF:joinedFacts Tryz.pinned.checked.prog 3 Tryz.f3 Rows.debtCoinsSpec Rows.debtCoinsRow=true:=
 XM (by kernel_rfl) Tryz.aj Tryz.fZ (by kernel_rfl) (by kernel_rfl) (by kernel_rfl) Tryz.gv (by kernel_rfl) Tryz.gM Oq.1 Oq.2.1 Oq.2.2.1 Oq.2.2.2 (by kernel_rfl) (by kernel_rfl) (by kernel_rfl) (by kernel_rfl) (by kernel_rfl) (by kernel_rfl) (by kernel_rfl) (by kernel_rfl) (by kernel_rfl) Tryz.j9 (by kernel_rfl) Tryz.gD Tryz.P4.1 Tryz.P4.2.1 Tryz.P4.2.2.1 (by kernel_rfl) (by kernel_rfl) (by kernel_rfl) (by kernel_rfl)
theorem S9:Tryz.pinned.checked.prog.funcNamed Rows.debtCoinsRow.func=some 3:=by kernel_rfl
theorem XK:Tryz.f3.isInstance Tryz.pinned.checked.prog Rows.debtCoinsRow.origin Rows.debtCoinsRow.targs:=of_decide_eq_true (by kernel_rfl)
theorem XH:Tryz.f3.isWrapper Tryz.pinned.checked.prog Rows.debtCoinsRow.wrapper Rows.debtCoinsRow.mainSum:=by unfold Func.isWrapper;first | (rw [if_pos (by decide+kernel)];kernel_rfl) | (rw [if_neg (by decide+kernel)];exact⟨rfl,rfl⟩)
theorem XI:true=Rows.debtCoinsRow.goesBy Tryz.pinned.checked.prog:=by kernel_rfl
end Go.Proofs.YtgpbjmfcllmohaaGreatDoor
