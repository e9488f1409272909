/- DebtFewests is true for every input: the first settlement with the fewest payments, how many there are, and the first one that can be made, are those of the reference, with the same errors. Part 10 of 10. -/
import Derived.Test.YteafnffcpbehhaaGreatFwc
import Derived.Test.YteafnffcpbehhaaGreatFwg
import Derived.Test.YteafnffcpbehhaaGreatFwi
set_option linter.all false
set_option maxRecDepth 100000
namespace Go.Proofs.YteafnffcpbehhaaGreat
open Go Pal Go.Conc Go.ConcM Go.ChangeShapes Go.WideShapes Go.ChangeAt Go.RowKit
theorem bZ:f18 1000000000000=some true:=by decide+kernel
theorem ZF(os:Os)(started:os.Started)(H:Type)(enc:TypeId×Value->H)(F:Stop.Interp):
  ReturnsInLeavingWide Rows.debtFewestsRow.assume Tryz.checked os 3 .any (Rows.debtFewestsSpec.pre6 enc Tryz.prog Tryz.f3 Rows.debtFewestsRow.domain false) ((OpenSpec.ofChange Rows.debtFewestsSpec).postWith enc Tryz.prog Tryz.f3 F (outsideKept [.timePasses]) false true false):=by
 refine returnsInLeavingWide_of_change_time (C:=Tryz.checked) Pal.Tryz.own started Tryz.func3
  (ChangeSpec.witness6c (enc:=enc) (C:=Tryz.checked) ⟨#[],#[.agg #[.slice none 0 0,.slice none 0 0],.agg #[iV 0,iV 0,iV 0],.slice none 0 0],[]⟩ 8 (by kernel_rfl) (by kernel_rfl) (by kernel_rfl) (by kernel_rfl)) ?_
 intro W base args ds gs before ag hW _ _ _;have O:∀(j:Nat) t v,Tryz.f3.params[j]? =some t->args[j]? =some v->Value.okWide Tryz.prog W .any base t v:=ag;have U:=hW;obtain⟨p,q,ai,aj,rfl,_,_⟩:=hW;have K:DataW.TrodAll enc Tryz.prog W 0 (λ_=>true) true Tryz.f3.params.toList args.toList ds p:=ai;rw [Tryz.params3] at K O;obtain⟨v0,_,d0,_,p0,_,a3,rfl,rfl,Y,K⟩:=trodAll_cons K;obtain⟨v1,_,d1,_,p1,_,rfl,rfl,rfl,Z,K⟩:=trodAll_cons K;obtain⟨v2,_,d2,_,p2,_,rfl,rfl,rfl,ac,K⟩:=trodAll_cons K;obtain⟨rfl,rfl,rfl⟩:=trodAll_nil K;obtain rfl:args= #[v0,v1,v2]:=by cases args;simp_all
 obtain⟨rfl,rfl⟩:=trodVars_none aj;simp only [List.append_nil] at U;have al:∀x∈p0++(p1++p2),x.block<W.heap.size:=λx I=>by simpa using U.lt x I
 obtain⟨a4,a5,a6,a7,x0,rfl,g0,u0⟩:=bQ (O 0 25 v0 rfl rfl) Y;obtain⟨x1,rfl⟩:=dg (O 1 27 v1 rfl rfl) Z;obtain⟨a8,c2,x2,rfl,g2⟩:=dy (O 2 28 v2 rfl rfl) ac;have am:=lH (E:=(Hg W).E) (H:=λ_=>none) g0 u0 g2 (fu_:=1000000000000) (mI (by decide) bZ x0 x1 x2);obtain⟨M,last,o,w',ap,k1,aq,av,aw⟩:=dt am;refine⟨M,last,o,w',ap,k1,aq,av,aw.mono λv ay=>?_⟩;obtain⟨⟨s,rfl⟩,hb,az⟩:=Z1 ay;refine⟨?_,az⟩;have st:∀{t:TypeId} {v:Value} {d:DataW H} {p:List MemPlace},Tryz.prog.readableRec t=true->t<Tryz.prog.types.size->DataW.Trod enc Tryz.prog W 0 (λ_=>true) true t v d p->(∀x∈p,x∈p0++(p1++p2))->DataW.Trod enc Tryz.prog {w' with os:=W.os} 0 (λb=>decide (b<W.heap.size)) true t v d p:=
  λa0 ht h a1=>Below.trod Pal.Tryz.laidOut a0 ht h hb λx I=>al x (a1 x I)
 have a2:=st (by kernel_rfl) (of_decide_eq_true (by kernel_rfl)) Y (λx I=>by simp [I]);have s1:=st (by kernel_rfl) (of_decide_eq_true (by kernel_rfl)) Z (λx I=>by simp [I]);have s2:=st (by kernel_rfl) (of_decide_eq_true (by kernel_rfl)) ac (λx I=>by simp [I]);refine⟨_,_,_,[],p0++(p1++p2),[],U,trodAll_mk1 (shut_bool Tryz.underlying4 true),?_,rfl,hb.frame _,λh=>by cases h⟩;exact⟨_,_,a2,trodAll_mk2 s1 s2,rfl⟩
theorem debtFewests_holds:Rows.DebtFewestsSaid:=
 OpenClaim.holds_of_wide_leaving_time 3 Tryz.f3 rfl rfl rfl rfl rfl rfl rfl ⟨rfl,rfl,rfl,rfl,rfl⟩ rfl rfl rfl rfl rfl ZH Tryz.func3 ZI ZK ZJ
  (λos started H enc _ F=>ZF os started H enc F)
#print axioms debtFewests_holds
end Go.Proofs.YteafnffcpbehhaaGreat
