/- DebtAdds, row of debt: for every input the law is true and its arguments read behind the call as before it. Part 9 of 9. -/
import Derived.Test.YtmeophcclkejkaaGreatAdc
import Derived.Test.YtmeophcclkejkaaGreatAdf
import Derived.Test.YtmeophcclkejkaaGreatAdh
set_option linter.all false
set_option maxRecDepth 100000
namespace Go.Proofs.YtmeophcclkejkaaGreat
open Go Pal Go.Conc Go.ConcM Go.ChangeShapes Go.WideShapes Go.ChangeAt Go.RowKit
theorem UE:f18 400=some true:=by decide+kernel
theorem Tt(os:Os)(started:os.Started)(H:Type)(enc:TypeId×Value->H)(F:Stop.Interp):
  ReturnsInLeavingWide Rows.debtAddsRow.assume Tryz.checked os 8 .any (Rows.debtAddsSpec.pre6 enc Tryz.prog Tryz.f8 Rows.debtAddsRow.domain false) ((OpenSpec.ofChange Rows.debtAddsSpec).postWith enc Tryz.prog Tryz.f8 F (outsideKept [.timePasses]) false true false):=by
 refine returnsInLeavingWide_of_change_time (C:=Tryz.checked) Pal.Tryz.own started Tryz.func8
  (ChangeSpec.witness6c (enc:=enc) (C:=Tryz.checked) ⟨#[],#[.agg #[.slice none 0 0,.slice none 0 0],.agg #[iV 0,iV 0,iV 0],.slice none 0 0],[]⟩ 8 (by kernel_rfl) (by kernel_rfl) (by kernel_rfl) (by kernel_rfl)) ?_
 intro W base args ds gs before ac hW _ _ _;have U:∀(j:Nat) t v,Tryz.f8.params[j]? =some t->args[j]? =some v->Value.okWide Tryz.prog W .any base t v:=ac;have V:=hW;obtain⟨p,q,ae,ag,rfl,_,_⟩:=hW;have O:DataW.TrodAll enc Tryz.prog W 0 (λ_=>true) true Tryz.f8.params.toList args.toList ds p:=ae;rw [Tryz.params8] at O U;obtain⟨v0,_,d0,_,p0,_,aw,rfl,rfl,Z,O⟩:=trodAll_cons O;obtain⟨v1,_,d1,_,Y,_,rfl,rfl,rfl,aa,O⟩:=trodAll_cons O;obtain⟨v2,_,d2,_,p2,_,rfl,rfl,rfl,ab,O⟩:=trodAll_cons O;obtain⟨rfl,rfl,rfl⟩:=trodAll_nil O;obtain rfl:args= #[v0,v1,v2]:=by cases args;simp_all
 obtain⟨rfl,rfl⟩:=trodVars_none ag;simp only [List.append_nil] at V;have ah:∀x∈p0++(Y++p2),x.block<W.heap.size:=λx K=>by simpa using V.lt x K
 obtain⟨ay,az,aA,aB,x0,rfl,g0,u0⟩:=UI (U 0 25 v0 rfl rfl) Z;obtain⟨ai,rfl⟩:=VI (U 1 27 v1 rfl rfl) aa;obtain⟨aC,c2,x2,rfl,g2⟩:=Vy (U 2 28 v2 rfl rfl) ab;have aj:=Xe (E:=(FB W).E) (H:=λ_=>none) g0 u0 g2 (fu_:=400) (YY (by omega) UE x0 ai x2);obtain⟨M,last,o,w',ak,k1,al,am,an⟩:=Vx aj;refine⟨M,last,o,w',ak,k1,al,am,an.mono λv ao=>?_⟩;obtain⟨⟨s,rfl⟩,hb,ap⟩:=TY ao;refine⟨?_,ap⟩;have st:∀{t:TypeId} {v:Value} {d:DataW H} {p:List MemPlace},Tryz.prog.readableRec t=true->t<Tryz.prog.types.size->DataW.Trod enc Tryz.prog W 0 (λ_=>true) true t v d p->(∀x∈p,x∈p0++(Y++p2))->DataW.Trod enc Tryz.prog {w' with os:=W.os} 0 (λb=>decide (b<W.heap.size)) true t v d p:=
  λaq ar h au=>Below.trod Pal.Tryz.laidOut aq ar h hb λx K=>ah x (au x K)
 have av:=st (by kernel_rfl) (of_decide_eq_true (by kernel_rfl)) Z (λx K=>by simp [K]);have s1:=st (by kernel_rfl) (of_decide_eq_true (by kernel_rfl)) aa (λx K=>by simp [K]);have s2:=st (by kernel_rfl) (of_decide_eq_true (by kernel_rfl)) ab (λx K=>by simp [K]);refine⟨_,_,_,[],p0++(Y++p2),[],V,trodAll_mk1 (shut_bool Tryz.underlying4 true),?_,rfl,hb.frame _,λh=>by cases h⟩;exact⟨_,_,av,trodAll_mk2 s1 s2,rfl⟩
theorem debtAdds_holds:Rows.DebtAddsSaid:=
 OpenClaim.holds_of_wide_leaving_time 8 Tryz.f8 rfl rfl rfl rfl rfl rfl rfl ⟨rfl,rfl,rfl,rfl,rfl⟩ rfl rfl rfl rfl rfl Tw Tryz.func8 Tv TF TC
  (λos started H enc _ F=>Tt os started H enc F)
#print axioms debtAdds_holds
end Go.Proofs.YtmeophcclkejkaaGreat
