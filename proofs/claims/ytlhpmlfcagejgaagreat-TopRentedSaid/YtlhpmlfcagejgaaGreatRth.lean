/- TopRented is true for every input: if each string that is put owes the steward a pound for each place, the steward is owed as many pounds as horses stand, and in the first settlement with the fewest payments each string pays its own places. Part 8 of 8. -/
import Derived.Test.YtlhpmlfcagejgaaGreatRtc
import Derived.Test.YtlhpmlfcagejgaaGreatRte
import Derived.Test.YtlhpmlfcagejgaaGreatRtg
set_option linter.all false
set_option maxRecDepth 100000
namespace Go.Proofs.YtlhpmlfcagejgaaGreat
open Go Pal Go.Conc Go.ChangeShapes Go.WideShapes Go.ChangeAt Go.RowKit
theorem Sp(os:Os)(started:os.Started)(H:Type)(enc:TypeId×Value->H):
  ReturnsInLeavingWide Rows.topRentedRow.assume Tryz.checked os 3 .any (Rows.topRentedSpec.pre6 enc Tryz.prog Tryz.f3 Rows.topRentedRow.domain false) (Rows.topRentedSpec.post enc Tryz.prog Tryz.f3 false true false false):=by
 refine returnsInLeavingWide_of_change_sized (C:=Tryz.checked) Pal.Tryz.own started Tryz.func3
  (ChangeSpec.witness6 (enc:=enc) (C:=Tryz.checked) false ⟨#[],#[.slice none 0 0],[]⟩ 8 (by kernel_rfl) (by kernel_rfl) (by kernel_rfl) (by kernel_rfl)) ?_
 intro W base args ds gs before aa hW _ _ _;have U:∀(j:Nat) t v,Tryz.f3.params[j]? =some t->args[j]? =some v->Value.okWide Tryz.prog W .any base t v:=aa;have K:=hW;obtain⟨p,q,ab,ae,rfl,_,_⟩:=hW;have Y:DataW.TrodAll enc Tryz.prog W 0 (λ_=>true) true Tryz.f3.params.toList args.toList ds p:=ab;rw [Tryz.params3] at Y U;obtain⟨v0,d0,rfl,rfl,Z⟩:=trodAll_one Y;obtain⟨rfl,rfl⟩:=trodVars_none ae;simp only [List.append_nil] at K;have ag:∀x∈p,x.block<W.heap.size:=λx O=>by simpa using K.lt x O
 obtain⟨ao,c2,x2,rfl,g2⟩:=Uw (U 0 22 v0 rfl rfl) Z;have ah:=UX (E:=(F8 W).E) (H:=λ_=>none) g2 (VV (nums:=x2));obtain⟨M,last,o,w',ai,k1,aj,ak,al⟩:=Up ah;refine⟨M,last,o,w',ai,k1,aj,ak,al.mono λv am=>?_⟩;obtain⟨⟨s,rfl⟩,hb⟩:=SV am;have an:DataW.Trod enc Tryz.prog w' 0 (λb=>decide (b<W.heap.size)) true 22 _ d0 p:=Below.trod Pal.Tryz.laidOut (by kernel_rfl) (of_decide_eq_true (by kernel_rfl)) Z hb λx O=>ag x O;refine⟨_,_,_,[],p,[],K,trodAll_mk1 (shut_bool Tryz.underlying4 true),?_,rfl,hb.frame _,λh=>by cases h⟩;exact trodAll_mk1 an
theorem topRented_holds:Rows.TopRentedSaid:=
 OpenClaim.holds_of_wide_leaving 3 Tryz.f3 rfl rfl rfl rfl rfl rfl rfl ⟨rfl,rfl,rfl,rfl,rfl⟩ rfl rfl rfl rfl rfl Sq Tryz.func3 Sr Sw Sx
  (λos started H enc _=>Sp os started H enc)
#print axioms topRented_holds
end Go.Proofs.YtlhpmlfcagejgaaGreat
