/- DebtNets, row of debt: for every input the law is true and its arguments read behind the call as before it. Part 9 of 9. -/
import Derived.Test.YtmeophcclkejkaaGreatNec
import Derived.Test.YtmeophcclkejkaaGreatNef
import Derived.Test.YtmeophcclkejkaaGreatNeh
set_option linter.all false
set_option maxRecDepth 100000
namespace Go.Proofs.YtmeophcclkejkaaGreat
open Go Pal Go.Conc Go.ConcM Go.ChangeShapes Go.WideShapes Go.ChangeAt Go.RowKit
theorem VH:f18 2001=some true:=by decide+kernel
theorem Ue(os:Os)(started:os.Started)(H:Type)(enc:TypeId×Value->H)(F:Stop.Interp):
  ReturnsInLeavingWide Rows.debtNetsRow.assume Tryz.checked os 9 .any (Rows.debtNetsSpec.pre6 enc Tryz.prog Tryz.f9 Rows.debtNetsRow.domain false) ((OpenSpec.ofChange Rows.debtNetsSpec).postWith enc Tryz.prog Tryz.f9 F (outsideKept [.timePasses]) false true false):=by
 refine returnsInLeavingWide_of_change_time (C:=Tryz.checked) Pal.Tryz.own started Tryz.func9
  (ChangeSpec.witness6c (enc:=enc) (C:=Tryz.checked) ⟨#[],#[.agg #[.slice none 0 0,.slice none 0 0],.agg #[iV 0,iV 0,iV 0],.slice none 0 0],[]⟩ 8 (by kernel_rfl) (by kernel_rfl) (by kernel_rfl) (by kernel_rfl)) ?_
 intro W base args ds gs before am hW _ _ _;have U:∀(j:Nat) t v,Tryz.f9.params[j]? =some t->args[j]? =some v->Value.okWide Tryz.prog W .any base t v:=am;have Y:=hW;obtain⟨p,q,ap,aq,rfl,_,_⟩:=hW;have O:DataW.TrodAll enc Tryz.prog W 0 (λ_=>true) true Tryz.f9.params.toList args.toList ds p:=ap;rw [Tryz.params9] at O U;obtain⟨v0,_,d0,_,p0,_,bb,rfl,rfl,ac,O⟩:=trodAll_cons O;obtain⟨v1,_,d1,_,Z,_,rfl,rfl,rfl,ag,O⟩:=trodAll_cons O;obtain⟨v2,_,d2,_,p2,_,rfl,rfl,rfl,al,O⟩:=trodAll_cons O;obtain⟨rfl,rfl,rfl⟩:=trodAll_nil O;obtain rfl:args= #[v0,v1,v2]:=by cases args;simp_all
 obtain⟨rfl,rfl⟩:=trodVars_none aq;simp only [List.append_nil] at Y;have aw:∀x∈p0++(Z++p2),x.block<W.heap.size:=λx K=>by simpa using Y.lt x K
 obtain⟨be,bi,bn,bo,x0,rfl,g0,u0⟩:=Vi (U 0 25 v0 rfl rfl) ac;obtain⟨ay,rfl⟩:=WZ (U 1 27 v1 rfl rfl) ag;obtain⟨bq,c2,x2,rfl,g2⟩:=WX (U 2 28 v2 rfl rfl) al;have az:=ZE (E:=(FM W).E) (H:=λ_=>none) g0 u0 g2 (fu_:=2001) (ZY (by omega) VH x0 ay x2);obtain⟨M,last,o,w',a0,k1,a1,a2,a3⟩:=WE az;refine⟨M,last,o,w',a0,k1,a1,a2,a3.mono λv a4=>?_⟩;obtain⟨⟨s,rfl⟩,hb,a5⟩:=UE a4;refine⟨?_,a5⟩;have st:∀{t:TypeId} {v:Value} {d:DataW H} {p:List MemPlace},Tryz.prog.readableRec t=true->t<Tryz.prog.types.size->DataW.Trod enc Tryz.prog W 0 (λ_=>true) true t v d p->(∀x∈p,x∈p0++(Z++p2))->DataW.Trod enc Tryz.prog {w' with os:=W.os} 0 (λb=>decide (b<W.heap.size)) true t v d p:=
  λa6 a7 h a8=>Below.trod Pal.Tryz.laidOut a6 a7 h hb λx K=>aw x (a8 x K)
 have a9:=st (by kernel_rfl) (of_decide_eq_true (by kernel_rfl)) ac (λx K=>by simp [K]);have s1:=st (by kernel_rfl) (of_decide_eq_true (by kernel_rfl)) ag (λx K=>by simp [K]);have s2:=st (by kernel_rfl) (of_decide_eq_true (by kernel_rfl)) al (λx K=>by simp [K]);refine⟨_,_,_,[],p0++(Z++p2),[],Y,trodAll_mk1 (shut_bool Tryz.underlying4 true),?_,rfl,hb.frame _,λh=>by cases h⟩;exact⟨_,_,a9,trodAll_mk2 s1 s2,rfl⟩
theorem debtNets_holds:Rows.DebtNetsSaid:=
 OpenClaim.holds_of_wide_leaving_time 9 Tryz.f9 rfl rfl rfl rfl rfl rfl rfl ⟨rfl,rfl,rfl,rfl,rfl⟩ rfl rfl rfl rfl rfl Ug Tryz.func9 Uf Un Uk
  (λos started H enc _ F=>Ue os started H enc F)
#print axioms debtNets_holds
end Go.Proofs.YtmeophcclkejkaaGreat
