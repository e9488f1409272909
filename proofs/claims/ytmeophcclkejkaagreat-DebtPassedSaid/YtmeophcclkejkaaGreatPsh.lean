/- DebtPassed, row of debt: for every input the law is true and its argument reads behind the call as before it. Part 8 of 8. -/
import Derived.Test.YtmeophcclkejkaaGreatPsc
import Derived.Test.YtmeophcclkejkaaGreatPse
import Derived.Test.YtmeophcclkejkaaGreatPsg
set_option linter.all false
set_option maxRecDepth 100000
namespace Go.Proofs.YtmeophcclkejkaaGreat
open Go Pal Go.Conc Go.ConcM Go.ChangeShapes Go.WideShapes Go.ChangeAt Go.RowKit
theorem Vo:f18 2001=some true:=by decide+kernel
theorem T1(os:Os)(started:os.Started)(H:Type)(enc:TypeId×Value->H)(F:Stop.Interp):
  ReturnsInLeavingWide Rows.debtPassedRow.assume Tryz.checked os 5 .any (Rows.debtPassedSpec.pre6 enc Tryz.prog Tryz.f5 Rows.debtPassedRow.domain false) ((OpenSpec.ofChange Rows.debtPassedSpec).postWith enc Tryz.prog Tryz.f5 F (outsideKept [.timePasses]) false true false):=by
 refine returnsInLeavingWide_of_change_time (C:=Tryz.checked) Pal.Tryz.own started Tryz.func5
  (ChangeSpec.witness6c (enc:=enc) (C:=Tryz.checked) ⟨#[],#[.slice none 0 0],[]⟩ 8 (by kernel_rfl) (by kernel_rfl) (by kernel_rfl) (by kernel_rfl)) ?_
 intro W base args ds gs before ac hW _ _ _;have U:∀(j:Nat) t v,Tryz.f5.params[j]? =some t->args[j]? =some v->Value.okWide Tryz.prog W .any base t v:=ac;have K:=hW;obtain⟨p,q,ag,al,rfl,_,_⟩:=hW;have Y:DataW.TrodAll enc Tryz.prog W 0 (λ_=>true) true Tryz.f5.params.toList args.toList ds p:=ag;rw [Tryz.params5] at Y U;obtain⟨v0,d0,rfl,rfl,Z⟩:=trodAll_one Y;obtain⟨rfl,rfl⟩:=trodVars_none al;simp only [List.append_nil] at K;have am:∀x∈p,x.block<W.heap.size:=λx O=>by simpa using K.lt x O
 obtain⟨ay,c2,x2,rfl,g2⟩:=Wo (U 0 28 v0 rfl rfl) Z;have an:=Ye (E:=(GR W).E) (H:=λ_=>none) g2 (fu_:=2001) (Zk (by omega) Vo x2);obtain⟨M,last,o,w',ao,k1,ap,aq,ar⟩:=Wj an;refine⟨M,last,o,w',ao,k1,ap,aq,ar.mono λv au=>?_⟩;obtain⟨⟨s,rfl⟩,hb,av⟩:=Up au;refine⟨?_,av⟩;have aw:DataW.Trod enc Tryz.prog {w' with os:=W.os} 0 (λb=>decide (b<W.heap.size)) true 28 _ d0 p:=Below.trod Pal.Tryz.laidOut (by kernel_rfl) (of_decide_eq_true (by kernel_rfl)) Z hb λx O=>am x O;refine⟨_,_,_,[],p,[],K,trodAll_mk1 (shut_bool Tryz.underlying4 true),?_,rfl,hb.frame _,λh=>by cases h⟩;exact trodAll_mk1 aw
theorem debtPassed_holds:Rows.DebtPassedSaid:=
 OpenClaim.holds_of_wide_leaving_time 5 Tryz.f5 rfl rfl rfl rfl rfl rfl rfl ⟨rfl,rfl,rfl,rfl,rfl⟩ rfl rfl rfl rfl rfl T2 Tryz.func5 T3 T4 T5
  (λos started H enc _ F=>T1 os started H enc F)
#print axioms debtPassed_holds
end Go.Proofs.YtmeophcclkejkaaGreat
