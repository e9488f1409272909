/- ToothChecks. Part 7 of 8. -/
import Derived.Test.YtboibffcmhheiaaGreatDoorTkf
set_option linter.all false
set_option maxRecDepth 100000
namespace Go.Proofs.YtboibffcmhheiaaGreatDoor
open Go
theorem IQ:((Rows.toothChecksRow.inPlace==Tryz.pinned.checked.prog.inPlace 18)=true)∧((Rows.toothChecksRow.unfollowed==Tryz.pinned.checked.prog.unfollowed 18)=true)∧((Rows.toothChecksRow.recurses==Tryz.pinned.checked.prog.recurses 18)=true)∧((Rows.toothChecksRow.named==Tryz.pinned.checked.prog.varsNamed 18)=true):=⟨by kernel_rfl,by kernel_rfl,by kernel_rfl,by kernel_rfl⟩
theorem Qe:joinedFacts Tryz.pinned.checked.prog 18 Tryz.f18 Rows.toothChecksSpec Rows.toothChecksRow=true:=
 Qj (by kernel_rfl) Tryz.Sa Tryz.U6 (by kernel_rfl) (by kernel_rfl) (by kernel_rfl) Tryz.Uk (by kernel_rfl) Tryz.Vr IQ.1 IQ.2.1 IQ.2.2.1 IQ.2.2.2 (by kernel_rfl) (by kernel_rfl) (by kernel_rfl) (by kernel_rfl) (by kernel_rfl) (by kernel_rfl) (by kernel_rfl) (by kernel_rfl) (by kernel_rfl) Tryz.VN (by kernel_rfl) Tryz.Un Tryz.JK.1 Tryz.JK.2.1 Tryz.JK.2.2.1 (by kernel_rfl) (by kernel_rfl) (by kernel_rfl) (by kernel_rfl)
theorem My:Tryz.pinned.checked.prog.funcNamed Rows.toothChecksRow.func=some 18:=by kernel_rfl
theorem Qg:Tryz.f18.isInstance Tryz.pinned.checked.prog Rows.toothChecksRow.origin Rows.toothChecksRow.targs:=of_decide_eq_true (by kernel_rfl)
theorem Qf:Tryz.f18.isWrapper Tryz.pinned.checked.prog Rows.toothChecksRow.wrapper Rows.toothChecksRow.mainSum:=by unfold Func.isWrapper;first | (rw [if_pos (by decide+kernel)];kernel_rfl) | (rw [if_neg (by decide+kernel)];exact⟨rfl,rfl⟩)
theorem Qh:true=Rows.toothChecksRow.goesBy Tryz.pinned.checked.prog:=by kernel_rfl
end Go.Proofs.YtboibffcmhheiaaGreatDoor
