/- DebtApart, row of debt: for every input the law is true and its argument reads behind the call as before it. Part 8 of 8. -/
import Derived.Test.YtmeophcclkejkaaGreatApc
import Derived.Test.YtmeophcclkejkaaGreatApe
import Derived.Test.YtmeophcclkejkaaGreatApg
set_option linter.all false
set_option maxRecDepth 100000
namespace Go.Proofs.YtmeophcclkejkaaGreat
open Go Pal Go.Conc Go.ConcM Go.ChangeShapes Go.WideShapes Go.ChangeAt Go.RowKit
theorem VC:f18 3001=some true:=by decide+kernel
theorem Ux(os:Os)(started:os.Started)(H:Type)(enc:TypeId×Value->H)(F:Stop.Interp):
  ReturnsInLeavingWide Rows.debtApartRow.assume Tryz.checked os 16 .any (Rows.debtApartSpec.pre6 enc Tryz.prog Tryz.f16 Rows.debtApartRow.domain false) ((OpenSpec.ofChange Rows.debtApartSpec).postWith enc Tryz.prog Tryz.f16 F (outsideKept [.timePasses]) false true false):=by
 refine returnsInLeavingWide_of_change_time (C:=Tryz.checked) Pal.Tryz.own started Tryz.func16
  (ChangeSpec.witness6c (enc:=enc) (C:=Tryz.checked) ⟨#[],#[.slice none 0 0],[]⟩ 8 (by kernel_rfl) (by kernel_rfl) (by kernel_rfl) (by kernel_rfl)) ?_
 intro W base args ds gs before ac hW _ _ _;have U:∀(j:Nat) t v,Tryz.f16.params[j]? =some t->args[j]? =some v->Value.okWide Tryz.prog W .any base t v:=ac;have K:=hW;obtain⟨p,q,ag,al,rfl,_,_⟩:=hW;have Y:DataW.TrodAll enc Tryz.prog W 0 (λ_=>true) true Tryz.f16.params.toList args.toList ds p:=ag;rw [Tryz.params16] at Y U;obtain⟨v0,d0,rfl,rfl,Z⟩:=trodAll_one Y;obtain⟨rfl,rfl⟩:=trodVars_none al;simp only [List.append_nil] at K;have am:∀x∈p,x.block<W.heap.size:=λx O=>by simpa using K.lt x O
 obtain⟨a2,c2,x2,rfl,g2⟩:=W7 (U 0 28 v0 rfl rfl) Z;have ap:=Yk (E:=(G1 W).E) (H:=λ_=>none) g2 (fu_:=3001) (Zu (by omega) VC x2);obtain⟨M,last,o,w',aq,k1,av,aw,ay⟩:=WE ap;refine⟨M,last,o,w',aq,k1,av,aw,ay.mono λv az=>?_⟩;obtain⟨⟨s,rfl⟩,hb,a0⟩:=UR az;refine⟨?_,a0⟩;have a1:DataW.Trod enc Tryz.prog {w' with os:=W.os} 0 (λb=>decide (b<W.heap.size)) true 28 _ d0 p:=Below.trod Pal.Tryz.laidOut (by kernel_rfl) (of_decide_eq_true (by kernel_rfl)) Z hb λx O=>am x O;refine⟨_,_,_,[],p,[],K,trodAll_mk1 (shut_bool Tryz.underlying4 true),?_,rfl,hb.frame _,λh=>by cases h⟩;exact trodAll_mk1 a1
theorem debtApart_holds:Rows.DebtApartSaid:=
 OpenClaim.holds_of_wide_leaving_time 16 Tryz.f16 rfl rfl rfl rfl rfl rfl rfl ⟨rfl,rfl,rfl,rfl,rfl⟩ rfl rfl rfl rfl rfl Uz Tryz.func16 Uy UA UC
  (λos started H enc _ F=>Ux os started H enc F)
#print axioms debtApart_holds
end Go.Proofs.YtmeophcclkejkaaGreat
