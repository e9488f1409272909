/- DebtOrder, as the card says: for every list of numbers the law returns true and the list reads as before; calm, the variable errors.errorType laid as start-up lays it Part 9 of 9. -/
import Derived.Test.YtmbgkhhhldcpcaaGreatDoorOre
import Derived.Test.YtmbgkhhhldcpcaaGreatDoorOrf
import Derived.Test.YtmbgkhhhldcpcaaGreatDoorOrh
import Derived.Test.YtmbgkhhhldcpcaaGreatDoorTie
import Derived.Test.YtmbgkhhhldcpcaaGreatDoorCards
set_option linter.all false
set_option maxRecDepth 100000
namespace Go.Proofs.YtmbgkhhhldcpcaaGreatDoor
open Go Pal Go.Conc Go.ConcM Go.ChangeShapes Go.WideShapes Go.ChangeAt Go.RowKit
theorem bN:f18 1000000000000=some true:=by decide+kernel
theorem YR(os:Os)(started:os.Started)(H:Type)(enc:TypeId×Value->H)(F:Stop.Interp):
  ReturnsInLeavingWide Rows.debtOrderRow.assume Tryz.checked os 3 .any (λw args=>(Rows.debtOrderSpec.pre enc Tryz.prog Tryz.f3 [] false w args/\laidMetH Tryz.prog [("errors.errorType",Rows.laid_errors_errorType)] w)/\sizedMet enc Tryz.prog Tryz.f3 (OpenSpec.ofChange Rows.debtOrderSpec) false w args) ((OpenSpec.ofChange Rows.debtOrderSpec).postWith enc Tryz.prog Tryz.f3 F (outsideKept [.timePasses]) false true false):=by
 refine returnsInLeavingWide_of_good (C:=Tryz.checked) Pal.Tryz.own started
  (Y7 (enc:=enc) (C:=Tryz.checked) (os:=os) (X:=λw _=>laidMetH Tryz.prog [("errors.errorType",Rows.laid_errors_errorType)] w) (U5 os) #[.slice none 0 0] 8 rfl (by kernel_rfl) (by kernel_rfl) (by kernel_rfl) (by kernel_rfl) (by kernel_rfl) (Y1 os _)) ?_
 intro w tape i _ _ _ al am _;obtain⟨_,_,_,ap,aq,_,_,_,_,Z⟩:=al;have av:ap=Tryz.f3:=Option.some.inj (aq.symm.trans Tryz.func3);subst av;obtain⟨⟨⟨ds,gs,before,hw,a9⟩,ac⟩,bb⟩:=am;have hW:=DataW.Whole.of_heap (w':=w.forCall tape i) (by rfl) hw;generalize w.forCall tape i=W at hW Z ac ⊢;have O:∀(j:Nat) t v,Tryz.f3.params[j]? =some t->i.args[j]? =some v->Value.okWide Tryz.prog W .any w.heap.size t v:=Z;have K:=hW;obtain⟨p,q,aw,ay,rfl,_,_⟩:=hW;have U:DataW.TrodAll enc Tryz.prog W 0 (λ_=>true) true Tryz.f3.params.toList i.args.toList ds p:=aw;rw [Tryz.params3] at U O;obtain⟨blocks,args,vars⟩:=i;simp only at U O K ⊢;obtain⟨v0,d0,rfl,rfl,ag⟩:=trodAll_one U;obtain⟨rfl,rfl⟩:=trodVars_none ay;simp only [List.append_nil] at K;have az:∀x∈p,x.block<W.heap.size:=λx Y=>by simpa using K.lt x Y
 obtain⟨be,c2,x2,rfl,g2⟩:=cP (O 0 22 v0 rfl rfl) ag;have a0:GE (G9 W).E:=fW ac;have a1:=dy (E:=(G9 W).E) (H:=λ_=>none) a0 g2 (fu_:=1000000000000) (eL (by decide) bN x2);obtain⟨M,last,o,w',a2,k1,a3,a4,a5⟩:=cg a1;refine⟨M,last,o,w',a2,k1,a3,a4,a5.mono λv a6=>?_⟩;obtain⟨⟨s,rfl⟩,hb,a7⟩:=Zg a6;refine postWith_blind (postWith_of_post ?_ a7);have a8:DataW.Trod enc Tryz.prog {w' with os:=W.os} 0 (λb=>decide (b<W.heap.size)) true 22 _ d0 p:=Below.trod Pal.Tryz.laidOut (by kernel_rfl) (of_decide_eq_true (by kernel_rfl)) ag hb λx Y=>az x Y;refine⟨_,_,_,[],p,[],K,trodAll_mk1 (shut_bool Tryz.underlying4 true),?_,rfl,hb.frame _,λh=>by cases h⟩;exact trodAll_mk1 a8
theorem YT:Rows.DebtOrderSaid:=
 OpenClaim.holds_of_wide_leaving_time 3 Tryz.f3 rfl rfl rfl rfl rfl rfl rfl ⟨rfl,rfl,rfl,rfl,rfl⟩ rfl rfl rfl rfl rfl T4 Tryz.func3 YS YY YU
  (λos started H enc _ F=>YR os started H enc F)
theorem debtOrder_card:Rows.DebtOrderCardSaid:=
 Claim7.YQ .later true [] [.handle] true (true,"bc62205f502f3c9b1ae26937871a04f7a5a49525bdfc2e70db59cfd366851379") true
  YT (λ_ h=>by cases h) (by kernel_rfl) (λ_ h=>by cases h) debtOrder_row_tie rfl ⟨rfl,rfl⟩ Tryz.Qs.2.2.2 rfl
  (λf fn O U=>by
   obtain rfl:f=3:=Option.some.inj (T4.symm.trans O) |>.symm
   obtain rfl:fn=Tryz.f3:=(Option.some.inj (Tryz.func3.symm.trans U)).symm
   exact⟨Tryz.kO,λj t K=>by
    rw [Tryz.params3] at K
    obtain rfl:t=22:=by
     have:=Array.mem_of_getElem? K
     simpa using this
    exact(show Tryz.prog.wantsStandIn 22=false by kernel_rfl)⟩)
  YZ
#print axioms debtOrder_card
end Go.Proofs.YtmbgkhhhldcpcaaGreatDoor
