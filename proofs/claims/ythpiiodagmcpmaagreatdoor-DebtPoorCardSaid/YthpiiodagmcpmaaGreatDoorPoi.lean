/- DebtPoor, as the card says: for every list of numbers the law returns true and the list reads as before; calm, the variable errors.errorType laid as start-up lays it Part 9 of 9. -/
import Derived.Test.YthpiiodagmcpmaaGreatDoorPoe
import Derived.Test.YthpiiodagmcpmaaGreatDoorPof
import Derived.Test.YthpiiodagmcpmaaGreatDoorPoh
import Derived.Test.YthpiiodagmcpmaaGreatDoorTie
import Derived.Test.YthpiiodagmcpmaaGreatDoorCards
set_option linter.all false
set_option maxRecDepth 100000
namespace Go.Proofs.YthpiiodagmcpmaaGreatDoor
open Go Pal Go.Conc Go.ConcM Go.ChangeShapes Go.WideShapes Go.ChangeAt Go.RowKit
theorem YF:f18 1000000000000=some true:=by decide+kernel
theorem Xe(os:Os)(started:os.Started)(H:Type)(enc:TypeId×Value->H)(F:Stop.Interp):
  ReturnsInLeavingWide Rows.debtPoorRow.assume Tryz.checked os 3 .any (λw args=>(Rows.debtPoorSpec.pre enc Tryz.prog Tryz.f3 [] false w args/\laidMetH Tryz.prog [("errors.errorType",Rows.laid_errors_errorType)] w)/\sizedMet enc Tryz.prog Tryz.f3 (OpenSpec.ofChange Rows.debtPoorSpec) false w args) ((OpenSpec.ofChange Rows.debtPoorSpec).postWith enc Tryz.prog Tryz.f3 F (outsideKept [.timePasses]) false true false):=by
 refine returnsInLeavingWide_of_good (C:=Tryz.checked) Pal.Tryz.own started
  (Xu (enc:=enc) (C:=Tryz.checked) (os:=os) (X:=λw _=>laidMetH Tryz.prog [("errors.errorType",Rows.laid_errors_errorType)] w) (TH os) #[.slice none 0 0] 8 rfl (by kernel_rfl) (by kernel_rfl) (by kernel_rfl) (by kernel_rfl) (by kernel_rfl) (Xl os _)) ?_
 intro w tape i _ _ _ al am _;obtain⟨_,_,_,ap,aq,_,_,_,_,Z⟩:=al;have av:ap=Tryz.f3:=Option.some.inj (aq.symm.trans Tryz.func3);subst av;obtain⟨⟨⟨ds,gs,before,hw,a9⟩,ac⟩,bb⟩:=am;have hW:=DataW.Whole.of_heap (w':=w.forCall tape i) (by rfl) hw;generalize w.forCall tape i=W at hW Z ac ⊢;have O:∀(j:Nat) t v,Tryz.f3.params[j]? =some t->i.args[j]? =some v->Value.okWide Tryz.prog W .any w.heap.size t v:=Z;have K:=hW;obtain⟨p,q,aw,ay,rfl,_,_⟩:=hW;have U:DataW.TrodAll enc Tryz.prog W 0 (λ_=>true) true Tryz.f3.params.toList i.args.toList ds p:=aw;rw [Tryz.params3] at U O;obtain⟨blocks,args,vars⟩:=i;simp only at U O K ⊢;obtain⟨v0,d0,rfl,rfl,ag⟩:=trodAll_one U;obtain⟨rfl,rfl⟩:=trodVars_none ay;simp only [List.append_nil] at K;have az:∀x∈p,x.block<W.heap.size:=λx Y=>by simpa using K.lt x Y
 obtain⟨be,c2,x2,rfl,g2⟩:=aS (O 0 22 v0 rfl rfl) ag;have a0:GE (GM W).E:=cr ac;have a1:=an (E:=(GM W).E) (H:=λ_=>none) a0 g2 (fu_:=1000000000000) (bT (by decide) YF x2);obtain⟨M,last,o,w',a2,k1,a3,a4,a5⟩:=ZU a1;refine⟨M,last,o,w',a2,k1,a3,a4,a5.mono λv a6=>?_⟩;obtain⟨⟨s,rfl⟩,hb,a7⟩:=XD a6;refine postWith_blind (postWith_of_post ?_ a7);have a8:DataW.Trod enc Tryz.prog {w' with os:=W.os} 0 (λb=>decide (b<W.heap.size)) true 22 _ d0 p:=Below.trod Pal.Tryz.laidOut (by kernel_rfl) (of_decide_eq_true (by kernel_rfl)) ag hb λx Y=>az x Y;refine⟨_,_,_,[],p,[],K,trodAll_mk1 (shut_bool Tryz.underlying4 true),?_,rfl,hb.frame _,λh=>by cases h⟩;exact trodAll_mk1 a8
theorem Xf:Rows.DebtPoorSaid:=
 OpenClaim.holds_of_wide_leaving_time 3 Tryz.f3 rfl rfl rfl rfl rfl rfl rfl ⟨rfl,rfl,rfl,rfl,rfl⟩ rfl rfl rfl rfl rfl SM Tryz.func3 Xg Xr Xm
  (λos started H enc _ F=>Xe os started H enc F)
theorem debtPoor_card:Rows.DebtPoorCardSaid:=
 Claim7.Xd .later true [] [.handle] true (true,"e7bfff26705e63676bc0188ed9e975386cead6f04de94678717aa067fce403ef") true
  Xf (λ_ h=>by cases h) (by kernel_rfl) (λ_ h=>by cases h) debtPoor_row_tie rfl ⟨rfl,rfl⟩ Tryz.Pt.2.2.2 rfl
  (λf fn O U=>by
   obtain rfl:f=3:=Option.some.inj (SM.symm.trans O) |>.symm
   obtain rfl:fn=Tryz.f3:=(Option.some.inj (Tryz.func3.symm.trans U)).symm
   exact⟨Tryz.eH,λj t K=>by
    rw [Tryz.params3] at K
    obtain rfl:t=22:=by
     have:=Array.mem_of_getElem? K
     simpa using this
    exact(show Tryz.prog.wantsStandIn 22=false by kernel_rfl)⟩)
  Xs
#print axioms debtPoor_card
end Go.Proofs.YthpiiodagmcpmaaGreatDoor
