/- DebtKnown states that the examples of the chapter have the results given there. Part 9 of 9. -/
import Derived.Test.YtmeophcclkejkaaGreatDoorKne
import Derived.Test.YtmeophcclkejkaaGreatDoorKnf
import Derived.Test.YtmeophcclkejkaaGreatDoorKnh
import Derived.Test.YtmeophcclkejkaaGreatDoorTie
import Derived.Test.YtmeophcclkejkaaGreatDoorCards
set_option linter.all false
set_option maxRecDepth 100000
namespace Go.Proofs.YtmeophcclkejkaaGreatDoor
open Go Pal Go.Conc Go.ConcM Go.ChangeShapes Go.WideShapes Go.ChangeAt Go.RowKit
theorem Wv:f18 4001=some true:=by decide+kernel
theorem UA(os:Os)(started:os.Started)(H:Type)(enc:TypeId×Value->H)(F:Stop.Interp):
  ReturnsInLeavingWide Rows.debtKnownRow.assume Tryz.checked os 9 .any (λw args=>(Rows.debtKnownSpec.pre enc Tryz.prog Tryz.f9 [] false w args/\laidMetH Tryz.prog [("errors.errorType",Rows.laid_errors_errorType)] w)/\sizedMet enc Tryz.prog Tryz.f9 (OpenSpec.ofChange Rows.debtKnownSpec) false w args) ((OpenSpec.ofChange Rows.debtKnownSpec).postWith enc Tryz.prog Tryz.f9 F (outsideKept [.timePasses]) false true false):=by
 refine returnsInLeavingWide_of_good (C:=Tryz.checked) Pal.Tryz.own started
  (UX (enc:=enc) (C:=Tryz.checked) (os:=os) (X:=λw _=>laidMetH Tryz.prog [("errors.errorType",Rows.laid_errors_errorType)] w) (QV os) #[] 8 rfl (by kernel_rfl) (by kernel_rfl) (by kernel_rfl) (by kernel_rfl) (by kernel_rfl) (UN os _)) ?_
 intro w tape i _ _ _ Z ac _;obtain⟨_,_,_,ag,al,_,_,_,_,U⟩:=Z;have am:ag=Tryz.f9:=Option.some.inj (al.symm.trans Tryz.func9);subst am;obtain⟨⟨⟨ds,gs,before,hw,a5⟩,V⟩,a6⟩:=ac;have hW:=DataW.Whole.of_heap (w':=w.forCall tape i) (by rfl) hw;generalize w.forCall tape i=W at hW U V ⊢;have Y:∀(j:Nat) t v,Tryz.f9.params[j]? =some t->i.args[j]? =some v->Value.okWide Tryz.prog W .any w.heap.size t v:=U;have K:=hW;obtain⟨p,q,ap,aq,rfl,_,_⟩:=hW;have O:DataW.TrodAll enc Tryz.prog W 0 (λ_=>true) true Tryz.f9.params.toList i.args.toList ds p:=ap;rw [Tryz.params9] at O Y;obtain⟨blocks,args,vars⟩:=i;simp only at O Y K ⊢;obtain⟨a7,rfl,rfl⟩:=trodAll_nil O;obtain rfl:args= #[]:=by cases args;simp_all
 obtain⟨rfl,rfl⟩:=trodVars_none aq;simp only [List.append_nil] at K;have aw:GE (JZ W).E:=Yu V;have ay:=WS (E:=(JZ W).E) (H:=λ_=>none) aw (fu_:=4001) (YC Wv);obtain⟨M,last,o,w',az,k1,a0,a1,a2⟩:=XG ay;refine⟨M,last,o,w',az,k1,a0,a1,a2.mono λv a3=>?_⟩;obtain⟨⟨s,rfl⟩,hb,a4⟩:=Vb a3;refine postWith_blind (postWith_of_post ?_ a4);exact⟨_,_,_,[],[],[],K,trodAll_mk1 (shut_bool Tryz.underlying4 true),trodAll_mk0,rfl,hb.frame _,λh=>by cases h⟩
theorem UB:Rows.DebtKnownSaid:=
 OpenClaim.holds_of_wide_leaving_time 9 Tryz.f9 rfl rfl rfl rfl rfl rfl rfl ⟨rfl,rfl,rfl,rfl,rfl⟩ rfl rfl rfl rfl rfl Qi Tryz.func9 UC UD UG
  (λos started H enc _ F=>UA os started H enc F)
theorem debtKnown_card:Rows.DebtKnownCardSaid:=
 Claim7.Uy .later true [] [.handle] true (true,"a5b52b175413e767e508eb665fbaeadd6fc947b4bc802bccca041f40ac93cca1") true
  UB (λ_ h=>by cases h) (by kernel_rfl) (λ_ h=>by cases h) debtKnown_row_tie rfl ⟨rfl,rfl⟩ Tryz.Nn.2.2.2 rfl
  (λf fn O U=>by
   obtain rfl:f=9:=Option.some.inj (Qi.symm.trans O) |>.symm
   obtain rfl:fn=Tryz.f9:=(Option.some.inj (Tryz.func9.symm.trans U)).symm
   exact⟨Tryz.Y1,λj t K=>by
    rw [Tryz.params9] at K
    simp at K⟩)
  UF
#print axioms debtKnown_card
end Go.Proofs.YtmeophcclkejkaaGreatDoor
