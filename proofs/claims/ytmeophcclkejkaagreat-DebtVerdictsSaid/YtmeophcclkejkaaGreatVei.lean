/- DebtVerdicts, row of debt: for every input the law is true and its arguments read behind the call as before it. Part 9 of 9. -/
import Derived.Test.YtmeophcclkejkaaGreatVec
import Derived.Test.YtmeophcclkejkaaGreatVef
import Derived.Test.YtmeophcclkejkaaGreatVeh
set_option linter.all false
set_option maxRecDepth 100000
namespace Go.Proofs.YtmeophcclkejkaaGreat
open Go Pal Go.Conc Go.ConcM Go.ChangeShapes Go.WideShapes Go.ChangeAt Go.RowKit
theorem Xb:f18 3001=some true:=by decide+kernel
theorem U6(os:Os)(started:os.Started)(H:Type)(enc:TypeId×Value->H)(F:Stop.Interp):
  ReturnsInLeavingWide Rows.debtVerdictsRow.assume Tryz.checked os 14 .any (Rows.debtVerdictsSpec.pre6 enc Tryz.prog Tryz.f14 Rows.debtVerdictsRow.domain false) ((OpenSpec.ofChange Rows.debtVerdictsSpec).postWith enc Tryz.prog Tryz.f14 F (outsideKept [.timePasses]) false true false):=by
 refine returnsInLeavingWide_of_change_time (C:=Tryz.checked) Pal.Tryz.own started Tryz.func14
  (ChangeSpec.witness6c (enc:=enc) (C:=Tryz.checked) ⟨#[],#[.agg #[.slice none 0 0,.slice none 0 0],.agg #[iV 0,iV 0,iV 0],iV 0,iV 0,.slice none 0 0],[]⟩ 8 (by kernel_rfl) (by kernel_rfl) (by kernel_rfl) (by kernel_rfl)) ?_
 intro W base args ds gs before am hW _ _ _;have U:∀(j:Nat) t v,Tryz.f14.params[j]? =some t->args[j]? =some v->Value.okWide Tryz.prog W .any base t v:=am;have Y:=hW;obtain⟨p,q,ap,aq,rfl,_,_⟩:=hW;have O:DataW.TrodAll enc Tryz.prog W 0 (λ_=>true) true Tryz.f14.params.toList args.toList ds p:=ap;rw [Tryz.params14] at O U;obtain⟨v0,_,d0,_,p0,_,bv,rfl,rfl,Z,O⟩:=trodAll_cons O;obtain⟨v1,_,d1,_,p1,_,rfl,rfl,rfl,ac,O⟩:=trodAll_cons O;obtain⟨v2,_,d2,_,p2,_,rfl,rfl,rfl,av,O⟩:=trodAll_cons O;obtain⟨ag,_,d3,_,p3,_,rfl,rfl,rfl,aw,O⟩:=trodAll_cons O;obtain⟨v4,_,d4,_,p4,_,rfl,rfl,rfl,al,O⟩:=trodAll_cons O;obtain⟨rfl,rfl,rfl⟩:=trodAll_nil O;obtain rfl:args= #[v0,v1,v2,ag,v4]:=by cases args;simp_all
 obtain⟨rfl,rfl⟩:=trodVars_none aq;simp only [List.append_nil] at Y;have ay:∀x∈p0++(p1++(p2++(p3++p4))),x.block<W.heap.size:=λx K=>by simpa using Y.lt x K
 obtain⟨bw,bx,bz,b0,x0,rfl,g0,u0⟩:=Xa (U 0 25 v0 rfl rfl) Z;obtain⟨az,rfl⟩:=X9 (U 1 27 v1 rfl rfl) ac;obtain⟨x2,rfl⟩:=okWide_int Tryz.underlying3 (U 2 3 v2 rfl rfl);obtain⟨a0,rfl⟩:=okWide_int Tryz.underlying3 (U 3 3 ag rfl rfl);obtain⟨b1,c4,a1,rfl,a2⟩:=XM (U 4 28 v4 rfl rfl) al;have a3:=Zl (E:=(Gc W).E) (H:=λ_=>none) g0 u0 a2 (fu_:=3001) (bI (by omega) Xb x0 az x2 a0 a1);obtain⟨M,last,o,w',a4,k1,a5,a6,a7⟩:=Xt a3;refine⟨M,last,o,w',a4,k1,a5,a6,a7.mono λv a8=>?_⟩;obtain⟨⟨s,rfl⟩,hb,a9⟩:=Vt a8;refine⟨?_,a9⟩;have st:∀{t:TypeId} {v:Value} {d:DataW H} {p:List MemPlace},Tryz.prog.readableRec t=true->t<Tryz.prog.types.size->DataW.Trod enc Tryz.prog W 0 (λ_=>true) true t v d p->(∀x∈p,x∈p0++(p1++(p2++(p3++p4))))->DataW.Trod enc Tryz.prog {w' with os:=W.os} 0 (λb=>decide (b<W.heap.size)) true t v d p:=
  λbb ht h be=>Below.trod Pal.Tryz.laidOut bb ht h hb λx K=>ay x (be x K)
 have bi:=st (by kernel_rfl) (of_decide_eq_true (by kernel_rfl)) Z (λx K=>by simp [K]);have s1:=st (by kernel_rfl) (of_decide_eq_true (by kernel_rfl)) ac (λx K=>by simp [K]);have s2:=st (by kernel_rfl) (of_decide_eq_true (by kernel_rfl)) av (λx K=>by simp [K]);have bn:=st (by kernel_rfl) (of_decide_eq_true (by kernel_rfl)) aw (λx K=>by simp [K]);have bo:=st (by kernel_rfl) (of_decide_eq_true (by kernel_rfl)) al (λx K=>by simp [K]);refine⟨_,_,_,[],p0++(p1++(p2++(p3++p4))),[],Y,trodAll_mk1 (shut_bool Tryz.underlying4 true),?_,rfl,hb.frame _,λh=>by cases h⟩;exact⟨_,_,bi,⟨_,_,s1,⟨_,_,s2,trodAll_mk2 bn bo,rfl⟩,rfl⟩,rfl⟩
theorem debtVerdicts_holds:Rows.DebtVerdictsSaid:=
 OpenClaim.holds_of_wide_leaving_time 14 Tryz.f14 rfl rfl rfl rfl rfl rfl rfl ⟨rfl,rfl,rfl,rfl,rfl⟩ rfl rfl rfl rfl rfl U9 Tryz.func14 U8 Va Vb
  (λos started H enc _ F=>U6 os started H enc F)
#print axioms debtVerdicts_holds
end Go.Proofs.YtmeophcclkejkaaGreat
