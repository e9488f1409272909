/- DebtCoins, as the card says: for every list of numbers the law returns true and the list reads as before; calm, the variable errors.errorType laid as start-up lays it Part 9 of 9. -/
import Derived.Test.YtgpbjmfcllmohaaGreatDoorCoe
import Derived.Test.YtgpbjmfcllmohaaGreatDoorCof
import Derived.Test.YtgpbjmfcllmohaaGreatDoorCoh
import Derived.Test.YtgpbjmfcllmohaaGreatDoorTie
import Derived.Test.YtgpbjmfcllmohaaGreatDoorCards
set_option linter.all false
set_option maxRecDepth 100000
namespace Go.Proofs.YtgpbjmfcllmohaaGreatDoor
open Go Pal Go.Conc Go.ConcM Go.ChangeShapes Go.WideShapes Go.ChangeAt Go.RowKit
theorem ZQ:f18 1000000000000=some true:=by decide+kernel
theorem XE(os:Os)(started:os.Started)(H:Type)(enc:TypeId×Value->H)(F:Stop.Interp):
  ReturnsInLeavingWide Rows.debtCoinsRow.assume Tryz.checked os 3 .any (λw args=>(Rows.debtCoinsSpec.pre enc Tryz.prog Tryz.f3 [] false w args/\laidMetH Tryz.prog [("errors.errorType",Rows.laid_errors_errorType)] w)/\sizedMet enc Tryz.prog Tryz.f3 (OpenSpec.ofChange Rows.debtCoinsSpec) false w args) ((OpenSpec.ofChange Rows.debtCoinsSpec).postWith enc Tryz.prog Tryz.f3 F (outsideKept [.timePasses]) false true false):=by
 refine returnsInLeavingWide_of_good (C:=Tryz.checked) Pal.Tryz.own started
  (XY (enc:=enc) (C:=Tryz.checked) (os:=os) (X:=λw _=>laidMetH Tryz.prog [("errors.errorType",Rows.laid_errors_errorType)] w) (T4 os) #[.slice none 0 0] 8 rfl (by kernel_rfl) (by kernel_rfl) (by kernel_rfl) (by kernel_rfl) (by kernel_rfl) (XQ os _)) ?_
 intro w tape i _ _ _ ai al _;obtain⟨_,_,_,am,ap,_,_,_,_,Z⟩:=ai;have aq:am=Tryz.f3:=Option.some.inj (ap.symm.trans Tryz.func3);subst aq;obtain⟨⟨⟨ds,gs,before,hw,a8⟩,ac⟩,a9⟩:=al;have hW:=DataW.Whole.of_heap (w':=w.forCall tape i) (by rfl) hw;generalize w.forCall tape i=W at hW Z ac ⊢;have O:∀(j:Nat) t v,Tryz.f3.params[j]? =some t->i.args[j]? =some v->Value.okWide Tryz.prog W .any w.heap.size t v:=Z;have K:=hW;obtain⟨p,q,av,aw,rfl,_,_⟩:=hW;have U:DataW.TrodAll enc Tryz.prog W 0 (λ_=>true) true Tryz.f3.params.toList i.args.toList ds p:=av;rw [Tryz.params3] at U O;obtain⟨blocks,args,vars⟩:=i;simp only at U O K ⊢;obtain⟨v0,d0,rfl,rfl,ag⟩:=trodAll_one U;obtain⟨rfl,rfl⟩:=trodVars_none aw;simp only [List.append_nil] at K;have ay:∀x∈p,x.block<W.heap.size:=λx Y=>by simpa using K.lt x Y
 obtain⟨bb,c2,x2,rfl,g2⟩:=an (O 0 22 v0 rfl rfl) ag;have az:GE (GZ W).E:=ei ac;have a0:=aZ (E:=(GZ W).E) (H:=λ_=>none) az g2 (fu_:=1000000000000) (dE (by decide) ZQ x2);obtain⟨M,last,o,w',a1,k1,a2,a3,a4⟩:=bI a0;refine⟨M,last,o,w',a1,k1,a2,a3,a4.mono λv a5=>?_⟩;obtain⟨⟨s,rfl⟩,hb,a6⟩:=Yg a5;refine postWith_blind (postWith_of_post ?_ a6);have a7:DataW.Trod enc Tryz.prog {w' with os:=W.os} 0 (λb=>decide (b<W.heap.size)) true 22 _ d0 p:=Below.trod Pal.Tryz.laidOut (by kernel_rfl) (of_decide_eq_true (by kernel_rfl)) ag hb λx Y=>ay x Y;refine⟨_,_,_,[],p,[],K,trodAll_mk1 (shut_bool Tryz.underlying4 true),?_,rfl,hb.frame _,λh=>by cases h⟩;exact trodAll_mk1 a7
theorem XG:Rows.DebtCoinsSaid:=
 OpenClaim.holds_of_wide_leaving_time 3 Tryz.f3 rfl rfl rfl rfl rfl rfl rfl ⟨rfl,rfl,rfl,rfl,rfl⟩ rfl rfl rfl rfl rfl S9 Tryz.func3 XF XK XH
  (λos started H enc _ F=>XE os started H enc F)
theorem debtCoins_card:Rows.DebtCoinsCardSaid:=
 Claim7.XD .later true [] [.handle] true (true,"ba5651e37cd0174b37e57aa55edec2c23220873145d42bbabc339eb2b8fea4db") true
  XG (λ_ h=>by cases h) (by kernel_rfl) (λ_ h=>by cases h) debtCoins_row_tie rfl ⟨rfl,rfl⟩ Tryz.P4.2.2.2 rfl
  (λf fn O U=>by
   obtain rfl:f=3:=Option.some.inj (S9.symm.trans O) |>.symm
   obtain rfl:fn=Tryz.f3:=(Option.some.inj (Tryz.func3.symm.trans U)).symm
   exact⟨Tryz.gR,λj t K=>by
    rw [Tryz.params3] at K
    obtain rfl:t=22:=by
     have:=Array.mem_of_getElem? K
     simpa using this
    exact(show Tryz.prog.wantsStandIn 22=false by kernel_rfl)⟩)
  XI
#print axioms debtCoins_card
end Go.Proofs.YtgpbjmfcllmohaaGreatDoor
