/- DebtFewest states that the payments of Fewest are right and in order, that there are as many of them as persons, less the groups of Groups, and that payments that are right are not fewer. Part 9 of 9. -/
import Derived.Test.YtmeophcclkejkaaGreatDoorFee
import Derived.Test.YtmeophcclkejkaaGreatDoorFef
import Derived.Test.YtmeophcclkejkaaGreatDoorFeh
import Derived.Test.YtmeophcclkejkaaGreatDoorTie
import Derived.Test.YtmeophcclkejkaaGreatDoorCards
set_option linter.all false
set_option maxRecDepth 100000
namespace Go.Proofs.YtmeophcclkejkaaGreatDoor
open Go Pal Go.Conc Go.ConcM Go.ChangeShapes Go.WideShapes Go.ChangeAt Go.RowKit
theorem Ys:f18 4001=some true:=by decide+kernel
theorem Wr(os:Os)(started:os.Started)(H:Type)(enc:TypeId×Value->H)(F:Stop.Interp):
  ReturnsInLeavingWide Rows.debtFewestRow.assume Tryz.checked os 8 .any (λw args=>(Rows.debtFewestSpec.pre enc Tryz.prog Tryz.f8 [] false w args/\laidMetH Tryz.prog [("errors.errorType",Rows.laid_errors_errorType)] w)/\sizedMet enc Tryz.prog Tryz.f8 (OpenSpec.ofChange Rows.debtFewestSpec) false w args) ((OpenSpec.ofChange Rows.debtFewestSpec).postWith enc Tryz.prog Tryz.f8 F (outsideKept [.timePasses]) false true false):=by
 refine returnsInLeavingWide_of_good (C:=Tryz.checked) Pal.Tryz.own started
  (WO (enc:=enc) (C:=Tryz.checked) (os:=os) (X:=λw _=>laidMetH Tryz.prog [("errors.errorType",Rows.laid_errors_errorType)] w) (S8 os) #[.slice none 0 0] 8 rfl (by kernel_rfl) (by kernel_rfl) (by kernel_rfl) (by kernel_rfl) (by kernel_rfl) (WH os _)) ?_
 intro w tape i _ _ _ al am _;obtain⟨_,_,_,ap,aq,_,_,_,_,Z⟩:=al;have av:ap=Tryz.f8:=Option.some.inj (aq.symm.trans Tryz.func8);subst av;obtain⟨⟨⟨ds,gs,before,hw,a9⟩,ac⟩,bb⟩:=am;have hW:=DataW.Whole.of_heap (w':=w.forCall tape i) (by rfl) hw;generalize w.forCall tape i=W at hW Z ac ⊢;have O:∀(j:Nat) t v,Tryz.f8.params[j]? =some t->i.args[j]? =some v->Value.okWide Tryz.prog W .any w.heap.size t v:=Z;have K:=hW;obtain⟨p,q,aw,ay,rfl,_,_⟩:=hW;have U:DataW.TrodAll enc Tryz.prog W 0 (λ_=>true) true Tryz.f8.params.toList i.args.toList ds p:=aw;rw [Tryz.params8] at U O;obtain⟨blocks,args,vars⟩:=i;simp only at U O K ⊢;obtain⟨v0,d0,rfl,rfl,ag⟩:=trodAll_one U;obtain⟨rfl,rfl⟩:=trodVars_none ay;simp only [List.append_nil] at K;have az:∀x∈p,x.block<W.heap.size:=λx Y=>by simpa using K.lt x Y
 obtain⟨be,c2,x2,rfl,g2⟩:=ZK (O 0 22 v0 rfl rfl) ag;have a0:GE (GG W).E:=aD ac;have a1:=Zr (E:=(GG W).E) (H:=λ_=>none) a0 g2 (fu_:=4001) (ao (by omega) Ys x2);obtain⟨M,last,o,w',a2,k1,a3,a4,a5⟩:=YK a1;refine⟨M,last,o,w',a2,k1,a3,a4,a5.mono λv a6=>?_⟩;obtain⟨⟨s,rfl⟩,hb,a7⟩:=WY a6;refine postWith_blind (postWith_of_post ?_ a7);have a8:DataW.Trod enc Tryz.prog {w' with os:=W.os} 0 (λb=>decide (b<W.heap.size)) true 22 _ d0 p:=Below.trod Pal.Tryz.laidOut (by kernel_rfl) (of_decide_eq_true (by kernel_rfl)) ag hb λx Y=>az x Y;refine⟨_,_,_,[],p,[],K,trodAll_mk1 (shut_bool Tryz.underlying4 true),?_,rfl,hb.frame _,λh=>by cases h⟩;exact trodAll_mk1 a8
theorem Ws:Rows.DebtFewestSaid:=
 OpenClaim.holds_of_wide_leaving_time 8 Tryz.f8 rfl rfl rfl rfl rfl rfl rfl ⟨rfl,rfl,rfl,rfl,rfl⟩ rfl rfl rfl rfl rfl RU Tryz.func8 Wt Wv Ww
  (λos started H enc _ F=>Wr os started H enc F)
theorem debtFewest_card:Rows.DebtFewestCardSaid:=
 Claim7.Wp .later true [] [.handle] true (true,"a5b52b175413e767e508eb665fbaeadd6fc947b4bc802bccca041f40ac93cca1") true
  Ws (λ_ h=>by cases h) (by kernel_rfl) (λ_ h=>by cases h) debtFewest_row_tie rfl ⟨rfl,rfl⟩ Tryz.OY.2.2.2 rfl
  (λf fn O U=>by
   obtain rfl:f=8:=Option.some.inj (RU.symm.trans O) |>.symm
   obtain rfl:fn=Tryz.f8:=(Option.some.inj (Tryz.func8.symm.trans U)).symm
   exact⟨Tryz.cg,λj t K=>by
    rw [Tryz.params8] at K
    obtain rfl:t=22:=by
     have:=Array.mem_of_getElem? K
     simpa using this
    exact(show Tryz.prog.wantsStandIn 22=false by kernel_rfl)⟩)
  Wu
#print axioms debtFewest_card
end Go.Proofs.YtmeophcclkejkaaGreatDoor
