/- DebtAll: Fewest, Count, Verdict and Apart are what all settlements of three persons say. Part 9 of 9. -/
import Derived.Test.YtmeophcclkejkaaGreatAac
import Derived.Test.YtmeophcclkejkaaGreatAaf
import Derived.Test.YtmeophcclkejkaaGreatAah
set_option linter.all false
set_option maxRecDepth 100000
namespace Go.Proofs.YtmeophcclkejkaaGreat
open Go Pal Go.Conc Go.ConcM Go.ChangeShapes Go.WideShapes Go.ChangeAt Go.RowKit
theorem W4:f18 3001=some true:=by decide+kernel
theorem Vx(os:Os)(started:os.Started)(H:Type)(enc:TypeId×Value->H)(F:Stop.Interp):
  ReturnsInLeavingWide Rows.debtAllRow.assume Tryz.checked os 15 .any (Rows.debtAllSpec.pre6 enc Tryz.prog Tryz.f15 Rows.debtAllRow.domain false) ((OpenSpec.ofChange Rows.debtAllSpec).postWith enc Tryz.prog Tryz.f15 F (outsideKept [.timePasses]) false true false):=by
 refine returnsInLeavingWide_of_change_time (C:=Tryz.checked) Pal.Tryz.own started Tryz.func15
  (ChangeSpec.witness6c (enc:=enc) (C:=Tryz.checked) ⟨#[],#[.slice none 0 0],[]⟩ 8 (by kernel_rfl) (by kernel_rfl) (by kernel_rfl) (by kernel_rfl)) ?_
 intro W base args ds gs before ac hW _ _ _;have U:∀(j:Nat) t v,Tryz.f15.params[j]? =some t->args[j]? =some v->Value.okWide Tryz.prog W .any base t v:=ac;have K:=hW;obtain⟨p,q,ag,al,rfl,_,_⟩:=hW;have Y:DataW.TrodAll enc Tryz.prog W 0 (λ_=>true) true Tryz.f15.params.toList args.toList ds p:=ag;rw [Tryz.params15] at Y U;obtain⟨v0,d0,rfl,rfl,Z⟩:=trodAll_one Y;obtain⟨rfl,rfl⟩:=trodVars_none al;simp only [List.append_nil] at K;have am:∀x∈p,x.block<W.heap.size:=λx O=>by simpa using K.lt x O
 obtain⟨a2,c2,x2,rfl,g2⟩:=XQ (U 0 28 v0 rfl rfl) Z;have ap:=Ze (E:=(Ha W).E) (H:=λ_=>none) g2 (fu_:=3001) (ah (by omega) W4 x2);obtain⟨M,last,o,w',aq,k1,av,aw,ay⟩:=Yh ap;refine⟨M,last,o,w',aq,k1,av,aw,ay.mono λv az=>?_⟩;obtain⟨⟨s,rfl⟩,hb,a0⟩:=V0 az;refine⟨?_,a0⟩;have a1:DataW.Trod enc Tryz.prog {w' with os:=W.os} 0 (λb=>decide (b<W.heap.size)) true 28 _ d0 p:=Below.trod Pal.Tryz.laidOut (by kernel_rfl) (of_decide_eq_true (by kernel_rfl)) Z hb λx O=>am x O;refine⟨_,_,_,[],p,[],K,trodAll_mk1 (shut_bool Tryz.underlying4 true),?_,rfl,hb.frame _,λh=>by cases h⟩;exact trodAll_mk1 a1
theorem debtAll_holds:Rows.DebtAllSaid:=
 OpenClaim.holds_of_wide_leaving_time 15 Tryz.f15 rfl rfl rfl rfl rfl rfl rfl ⟨rfl,rfl,rfl,rfl,rfl⟩ rfl rfl rfl rfl rfl VG Tryz.func15 VF VK VR
  (λos started H enc _ F=>Vx os started H enc F)
#print axioms debtAll_holds
end Go.Proofs.YtmeophcclkejkaaGreat
