/- DebtPennies is true for every input: if all coins are one pound, the payments of Fewest can be made in some order if nobody is poor, and none can if somebody is. Part 9 of 9. -/
import Derived.Test.YtkcbafbhngehjaaGreatPnc
import Derived.Test.YtkcbafbhngehjaaGreatPnf
import Derived.Test.YtkcbafbhngehjaaGreatPnh
set_option linter.all false
set_option maxRecDepth 100000
namespace Go.Proofs.YtkcbafbhngehjaaGreat
open Go Pal Go.Conc Go.ConcM Go.ChangeShapes Go.WideShapes Go.ChangeAt Go.RowKit
theorem Zc:f18 1000000000000=some true:=by decide+kernel
theorem XL(os:Os)(started:os.Started)(H:Type)(enc:TypeId×Value->H)(F:Stop.Interp):
  ReturnsInLeavingWide Rows.debtPenniesRow.assume Tryz.checked os 3 .any (Rows.debtPenniesSpec.pre6 enc Tryz.prog Tryz.f3 Rows.debtPenniesRow.domain false) ((OpenSpec.ofChange Rows.debtPenniesSpec).postWith enc Tryz.prog Tryz.f3 F (outsideKept [.timePasses]) false true false):=by
 refine returnsInLeavingWide_of_change_time (C:=Tryz.checked) Pal.Tryz.own started Tryz.func3
  (ChangeSpec.witness6c (enc:=enc) (C:=Tryz.checked) ⟨#[],#[.slice none 0 0],[]⟩ 8 (by kernel_rfl) (by kernel_rfl) (by kernel_rfl) (by kernel_rfl)) ?_
 intro W base args ds gs before ac hW _ _ _;have U:∀(j:Nat) t v,Tryz.f3.params[j]? =some t->args[j]? =some v->Value.okWide Tryz.prog W .any base t v:=ac;have K:=hW;obtain⟨p,q,ag,ai,rfl,_,_⟩:=hW;have Y:DataW.TrodAll enc Tryz.prog W 0 (λ_=>true) true Tryz.f3.params.toList args.toList ds p:=ag;rw [Tryz.params3] at Y U;obtain⟨v0,d0,rfl,rfl,Z⟩:=trodAll_one Y;obtain⟨rfl,rfl⟩:=trodVars_none ai;simp only [List.append_nil] at K;have al:∀x∈p,x.block<W.heap.size:=λx O=>by simpa using K.lt x O
 obtain⟨a1,c2,x2,rfl,g2⟩:=aR (U 0 22 v0 rfl rfl) Z;have am:=gP (E:=(HD W).E) (H:=λ_=>none) g2 (fu_:=1000000000000) (ie (by decide) Zc x2);obtain⟨M,last,o,w',ap,k1,aq,av,aw⟩:=bA am;refine⟨M,last,o,w',ap,k1,aq,av,aw.mono λv ay=>?_⟩;obtain⟨⟨s,rfl⟩,hb,az⟩:=Yk ay;refine⟨?_,az⟩;have a0:DataW.Trod enc Tryz.prog {w' with os:=W.os} 0 (λb=>decide (b<W.heap.size)) true 22 _ d0 p:=Below.trod Pal.Tryz.laidOut (by kernel_rfl) (of_decide_eq_true (by kernel_rfl)) Z hb λx O=>al x O;refine⟨_,_,_,[],p,[],K,trodAll_mk1 (shut_bool Tryz.underlying4 true),?_,rfl,hb.frame _,λh=>by cases h⟩;exact trodAll_mk1 a0
theorem debtPennies_holds:Rows.DebtPenniesSaid:=
 OpenClaim.holds_of_wide_leaving_time 3 Tryz.f3 rfl rfl rfl rfl rfl rfl rfl ⟨rfl,rfl,rfl,rfl,rfl⟩ rfl rfl rfl rfl rfl XM Tryz.func3 XN XP XO
  (λos started H enc _ F=>XL os started H enc F)
#print axioms debtPennies_holds
end Go.Proofs.YtkcbafbhngehjaaGreat
