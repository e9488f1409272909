/- DebtKept states that all nets together are 0, and that payments are right just if they pay each person their net. Part 9 of 9. -/
import Derived.Test.YtmeophcclkejkaaGreatDoorKee
import Derived.Test.YtmeophcclkejkaaGreatDoorKef
import Derived.Test.YtmeophcclkejkaaGreatDoorKeh
import Derived.Test.YtmeophcclkejkaaGreatDoorTie
import Derived.Test.YtmeophcclkejkaaGreatDoorCards
set_option linter.all false
set_option maxRecDepth 100000
namespace Go.Proofs.YtmeophcclkejkaaGreatDoor
open Go Pal Go.Conc Go.ConcM Go.ChangeShapes Go.WideShapes Go.ChangeAt Go.RowKit
theorem V5:f18 2001=some true:=by decide+kernel
theorem UA(os:Os)(started:os.Started)(H:Type)(enc:TypeId×Value->H)(F:Stop.Interp):
  ReturnsInLeavingWide Rows.debtKeptRow.assume Tryz.checked os 3 .any (λw args=>(Rows.debtKeptSpec.pre enc Tryz.prog Tryz.f3 [] false w args/\laidMetH Tryz.prog [("errors.errorType",Rows.laid_errors_errorType)] w)/\sizedMet enc Tryz.prog Tryz.f3 (OpenSpec.ofChange Rows.debtKeptSpec) false w args) ((OpenSpec.ofChange Rows.debtKeptSpec).postWith enc Tryz.prog Tryz.f3 F (outsideKept [.timePasses]) false true false):=by
 refine returnsInLeavingWide_of_good (C:=Tryz.checked) Pal.Tryz.own started
  (UQ (enc:=enc) (C:=Tryz.checked) (os:=os) (X:=λw _=>laidMetH Tryz.prog [("errors.errorType",Rows.laid_errors_errorType)] w) (QX os) #[.slice none 0 0] 8 rfl (by kernel_rfl) (by kernel_rfl) (by kernel_rfl) (by kernel_rfl) (by kernel_rfl) (UM os _)) ?_
 intro w tape i _ _ _ al am _;obtain⟨_,_,_,ap,aq,_,_,_,_,Z⟩:=al;have aw:ap=Tryz.f3:=Option.some.inj (aq.symm.trans Tryz.func3);subst aw;obtain⟨⟨⟨ds,gs,before,hw,bi⟩,ac⟩,bo⟩:=am;have hW:=DataW.Whole.of_heap (w':=w.forCall tape i) (by rfl) hw;generalize w.forCall tape i=W at hW Z ac ⊢;have O:∀(j:Nat) t v,Tryz.f3.params[j]? =some t->i.args[j]? =some v->Value.okWide Tryz.prog W .any w.heap.size t v:=Z;have K:=hW;obtain⟨p,q,a0,a1,rfl,_,_⟩:=hW;have U:DataW.TrodAll enc Tryz.prog W 0 (λ_=>true) true Tryz.f3.params.toList i.args.toList ds p:=a0;rw [Tryz.params3] at U O;obtain⟨blocks,args,vars⟩:=i;simp only at U O K ⊢;obtain⟨v0,d0,rfl,rfl,ag⟩:=trodAll_one U;obtain⟨rfl,rfl⟩:=trodVars_none a1;simp only [List.append_nil] at K;have a2:∀x∈p,x.block<W.heap.size:=λx Y=>by simpa using K.lt x Y
 obtain⟨bv,c2,x2,rfl,g2⟩:=WZ (O 0 22 v0 rfl rfl) ag;have a3:GE (Gi W).E:=Yc ac;have a4:=W8 (E:=(Gi W).E) (H:=λ_=>none) a3 g2 (fu_:=2001) (X8 (by omega) V5 x2);obtain⟨M,last,o,w',a5,k1,a6,a7,a8⟩:=Xl a4;refine⟨M,last,o,w',a5,k1,a6,a7,a8.mono λv a9=>?_⟩;obtain⟨⟨s,rfl⟩,hb,bb⟩:=U7 a9;refine postWith_blind (postWith_of_post ?_ bb);have be:DataW.Trod enc Tryz.prog {w' with os:=W.os} 0 (λb=>decide (b<W.heap.size)) true 22 _ d0 p:=Below.trod Pal.Tryz.laidOut (by kernel_rfl) (of_decide_eq_true (by kernel_rfl)) ag hb λx Y=>a2 x Y;refine⟨_,_,_,[],p,[],K,trodAll_mk1 (shut_bool Tryz.underlying4 true),?_,rfl,hb.frame _,λh=>by cases h⟩;exact trodAll_mk1 be
theorem UF:Rows.DebtKeptSaid:=
 OpenClaim.holds_of_wide_leaving_time 3 Tryz.f3 rfl rfl rfl rfl rfl rfl rfl ⟨rfl,rfl,rfl,rfl,rfl⟩ rfl rfl rfl rfl rfl Qm Tryz.func3 UB UJ UK
  (λos started H enc _ F=>UA os started H enc F)
theorem debtKept_card:Rows.DebtKeptCardSaid:=
 Claim7.Uy .later true [] [.handle] true (true,"a5b52b175413e767e508eb665fbaeadd6fc947b4bc802bccca041f40ac93cca1") true
  UF (λ_ h=>by cases h) (by kernel_rfl) (λ_ h=>by cases h) debtKept_row_tie rfl ⟨rfl,rfl⟩ Tryz.NF.2.2.2 rfl
  (λf fn O U=>by
   obtain rfl:f=3:=Option.some.inj (Qm.symm.trans O) |>.symm
   obtain rfl:fn=Tryz.f3:=(Option.some.inj (Tryz.func3.symm.trans U)).symm
   exact⟨Tryz.Zk,λj t K=>by
    rw [Tryz.params3] at K
    obtain rfl:t=22:=by
     have:=Array.mem_of_getElem? K
     simpa using this
    exact(show Tryz.prog.wantsStandIn 22=false by kernel_rfl)⟩)
  UL
#print axioms debtKept_card
end Go.Proofs.YtmeophcclkejkaaGreatDoor
