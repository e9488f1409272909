/- TopClaimed: the claims of a book as words of vouchers, for every input, in the calm world of the row Part 8 of 8. -/
import Derived.Test.YtckjhfngndgdbaaGreatClc
import Derived.Test.YtckjhfngndgdbaaGreatCle
import Derived.Test.YtckjhfngndgdbaaGreatClg
set_option linter.all false
set_option maxRecDepth 100000
namespace Go.Proofs.YtckjhfngndgdbaaGreat
open Go Pal Go.Conc Go.ConcM Go.ChangeShapes Go.WideShapes Go.ChangeAt Go.RowKit
theorem Q9(os:Os)(started:os.Started)(H:Type)(enc:TypeId×Value->H)(F:Stop.Interp):
  ReturnsInLeavingWide Rows.topClaimedRow.assume Tryz.checked os 3 .any (Rows.topClaimedSpec.pre6 enc Tryz.prog Tryz.f3 Rows.topClaimedRow.domain false) ((OpenSpec.ofChange Rows.topClaimedSpec).postWith enc Tryz.prog Tryz.f3 F (outsideKept [.timePasses]) false true false):=by
 refine returnsInLeavingWide_of_change_time (C:=Tryz.checked) Pal.Tryz.own started Tryz.func3
  (ChangeSpec.witness6c (enc:=enc) (C:=Tryz.checked) ⟨#[],#[.slice none 0 0],[]⟩ 8 (by kernel_rfl) (by kernel_rfl) (by kernel_rfl) (by kernel_rfl)) ?_
 intro W base args ds gs before Y hW _ _ _;have U:∀(j:Nat) t v,Tryz.f3.params[j]? =some t->args[j]? =some v->Value.okWide Tryz.prog W .any base t v:=Y;have K:=hW;obtain⟨p,q,Z,aa,rfl,_,_⟩:=hW;have V:DataW.TrodAll enc Tryz.prog W 0 (λ_=>true) true Tryz.f3.params.toList args.toList ds p:=Z;rw [Tryz.params3] at V U;obtain⟨v0,d0,rfl,rfl,h0⟩:=trodAll_one V;obtain⟨rfl,rfl⟩:=trodVars_none aa;simp only [List.append_nil] at K;have ab:∀x∈p,x.block<W.heap.size:=λx O=>by simpa using K.lt x O
 obtain⟨am,c2,x2,rfl,g2⟩:=Tm (U 0 22 v0 rfl rfl) h0;have ac:=SF (E:=(Fw W).E) (H:=λ_=>none) g2 (Tl x2);obtain⟨M,last,o,w',ae,k1,ag,ah,ai⟩:=Tf ac;refine⟨M,last,o,w',ae,k1,ag,ah,ai.mono λv aj=>?_⟩;obtain⟨⟨s,rfl⟩,hb,ak⟩:=RE aj;refine⟨?_,ak⟩;have al:DataW.Trod enc Tryz.prog {w' with os:=W.os} 0 (λb=>decide (b<W.heap.size)) true 22 _ d0 p:=Below.trod Pal.Tryz.laidOut (by kernel_rfl) (of_decide_eq_true (by kernel_rfl)) h0 hb λx O=>ab x O;refine⟨_,_,_,[],p,[],K,trodAll_mk1 (shut_bool Tryz.underlying4 true),?_,rfl,hb.frame _,λh=>by cases h⟩;exact trodAll_mk1 al
theorem topClaimed_holds:Rows.TopClaimedSaid:=
 OpenClaim.holds_of_wide_leaving_time 3 Tryz.f3 rfl rfl rfl rfl rfl rfl rfl ⟨rfl,rfl,rfl,rfl,rfl⟩ rfl rfl rfl rfl rfl Ra Tryz.func3 Rb Rd Re
  (λos started H enc _ F=>Q9 os started H enc F)
#print axioms topClaimed_holds
end Go.Proofs.YtckjhfngndgdbaaGreat
