/- DebtGroups, row of debt: for every input the law is true and its argument reads behind the call as before it. Part 8 of 8. -/
import Derived.Test.YtmeophcclkejkaaGreatGrc
import Derived.Test.YtmeophcclkejkaaGreatGre
import Derived.Test.YtmeophcclkejkaaGreatGrg
set_option linter.all false
set_option maxRecDepth 100000
namespace Go.Proofs.YtmeophcclkejkaaGreat
open Go Pal Go.Conc Go.ConcM Go.ChangeShapes Go.WideShapes Go.ChangeAt Go.RowKit
theorem U4:f18 4001=some true:=by decide+kernel
theorem TE(os:Os)(started:os.Started)(H:Type)(enc:TypeId×Value->H)(F:Stop.Interp):
  ReturnsInLeavingWide Rows.debtGroupsRow.assume Tryz.checked os 13 .any (Rows.debtGroupsSpec.pre6 enc Tryz.prog Tryz.f13 Rows.debtGroupsRow.domain false) ((OpenSpec.ofChange Rows.debtGroupsSpec).postWith enc Tryz.prog Tryz.f13 F (outsideKept [.timePasses]) false true false):=by
 refine returnsInLeavingWide_of_change_time (C:=Tryz.checked) Pal.Tryz.own started Tryz.func13
  (ChangeSpec.witness6c (enc:=enc) (C:=Tryz.checked) ⟨#[],#[.slice none 0 0],[]⟩ 8 (by kernel_rfl) (by kernel_rfl) (by kernel_rfl) (by kernel_rfl)) ?_
 intro W base args ds gs before aa hW _ _ _;have U:∀(j:Nat) t v,Tryz.f13.params[j]? =some t->args[j]? =some v->Value.okWide Tryz.prog W .any base t v:=aa;have K:=hW;obtain⟨p,q,ab,ac,rfl,_,_⟩:=hW;have Y:DataW.TrodAll enc Tryz.prog W 0 (λ_=>true) true Tryz.f13.params.toList args.toList ds p:=ab;rw [Tryz.params13] at Y U;obtain⟨v0,d0,rfl,rfl,Z⟩:=trodAll_one Y;obtain⟨rfl,rfl⟩:=trodVars_none ac;simp only [List.append_nil] at K;have ae:∀x∈p,x.block<W.heap.size:=λx O=>by simpa using K.lt x O
 obtain⟨ao,c2,x2,rfl,g2⟩:=VK (U 0 28 v0 rfl rfl) Z;have ag:=Xf (E:=(GK W).E) (H:=λ_=>none) g2 (fu_:=4001) (XS (by omega) U4 x2);obtain⟨M,last,o,w',ah,k1,ai,aj,ak⟩:=Vt ag;refine⟨M,last,o,w',ah,k1,ai,aj,ak.mono λv al=>?_⟩;obtain⟨⟨s,rfl⟩,hb,am⟩:=T7 al;refine⟨?_,am⟩;have an:DataW.Trod enc Tryz.prog {w' with os:=W.os} 0 (λb=>decide (b<W.heap.size)) true 28 _ d0 p:=Below.trod Pal.Tryz.laidOut (by kernel_rfl) (of_decide_eq_true (by kernel_rfl)) Z hb λx O=>ae x O;refine⟨_,_,_,[],p,[],K,trodAll_mk1 (shut_bool Tryz.underlying4 true),?_,rfl,hb.frame _,λh=>by cases h⟩;exact trodAll_mk1 an
theorem debtGroups_holds:Rows.DebtGroupsSaid:=
 OpenClaim.holds_of_wide_leaving_time 13 Tryz.f13 rfl rfl rfl rfl rfl rfl rfl ⟨rfl,rfl,rfl,rfl,rfl⟩ rfl rfl rfl rfl rfl TG Tryz.func13 TF TI TH
  (λos started H enc _ F=>TE os started H enc F)
#print axioms debtGroups_holds
end Go.Proofs.YtmeophcclkejkaaGreat
