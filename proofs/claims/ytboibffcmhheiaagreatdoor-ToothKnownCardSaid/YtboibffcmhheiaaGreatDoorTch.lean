/- ToothKnown: the examples of the chapter have the results given there Part 8 of 8. -/
import Derived.Test.YtboibffcmhheiaaGreatDoorTcc
import Derived.Test.YtboibffcmhheiaaGreatDoorTce
import Derived.Test.YtboibffcmhheiaaGreatDoorTcg
import Derived.Test.YtboibffcmhheiaaGreatDoorTie
import Derived.Test.YtboibffcmhheiaaGreatDoorCards
import Derived.SevenTiedAt
set_option linter.all false
set_option maxRecDepth 100000
namespace Go.Proofs.YtboibffcmhheiaaGreatDoor
open Go Pal Go.Conc Go.ChangeShapes Go.WideShapes Go.ChangeAt Go.RowKit
theorem Rl:MO 200=some true:=by decide+kernel
theorem Qk(os:Os)(started:os.Started)(H:Type)(enc:TypeId×Value→H):
  ReturnsInLeavingWide {} Tryz.checked os 20 .any (fun w args=>(Rows.toothKnownSpec.pre enc Tryz.prog Tryz.f20 [] false w args∧laidMetH Tryz.prog [("errors.errorType",Rows.laid_errors_errorType)] w)∧sizedMet enc Tryz.prog Tryz.f20 (OpenSpec.ofChange Rows.toothKnownSpec) false w args)
   (Rows.toothKnownSpec.post enc Tryz.prog Tryz.f20 false true false false):=by
 refine returnsInLeavingWide_of_good (C:=Tryz.checked) Pal.Tryz.own started
  (ChangeSpec.witness_at (enc:=enc) (C:=Tryz.checked) (os:=os) (X:=fun w _=>laidMetH Tryz.prog [("errors.errorType",Rows.laid_errors_errorType)] w) false (Nw os) #[] 8 rfl (by kernel_rfl) (by kernel_rfl) (by kernel_rfl) (by kernel_rfl) (by kernel_rfl) (Qt os _)) ?_
 intro w tape i _ _ _ V Y _;obtain⟨_,_,_,Z,aa,_,_,_,_,ab⟩:=V;have ac:Z=Tryz.f20:=Option.some.inj (aa.symm.trans Tryz.func20);subst ac;obtain⟨⟨⟨ds,gs,before,hw,ao⟩,U⟩,ap⟩:=Y;have hW:=DataW.Whole.of_heap (w':=w.forCall tape i) (by rfl) hw;generalize w.forCall tape i=W at hW ab U ⊢;have K:=hW;obtain⟨p,q,ae,ag,rfl,_,_⟩:=hW;have O:DataW.TrodAll enc Tryz.prog W 0 (fun _=>true) true Tryz.f20.params.toList i.args.toList ds p:=ae;rw [Tryz.params20] at O;obtain⟨blocks,args,vars⟩:=i;simp only at O K ⊢;obtain⟨aq,rfl,rfl⟩:=trodAll_nil O;obtain rfl:args= #[]:=by cases args;simp_all
 obtain⟨rfl,rfl⟩:=trodVars_none ag;simp only [List.append_nil] at K;have ah:GE (Hz W).E:=TA U;have ai:=Sc (E:=(Hz W).E) (H:=fun _=>none) ah (fuel:=200) Rl;obtain⟨M,last,o,w',aj,k1,ak,al,am⟩:=Sm ai;refine⟨M,last,o,w',aj,k1,ak,al,am.mono fun v an=>?_⟩;obtain⟨⟨s,rfl⟩,hb⟩:=QI an;refine ChangeSpec.post_blind (W:=W) ?_;refine⟨_,_,_,[],[],[],K,trodAll_mk1 (shut_bool Tryz.underlying4 true),?_,rfl,hb.frame _,fun h=>by cases h⟩;exact rfl
end Go.Proofs.YtboibffcmhheiaaGreatDoor
namespace Go.Proofs.YtboibffcmhheiaaGreatDoor
open Go Pal
theorem Qm:Rows.ToothKnownSaid:=OpenClaim.holds_of_wide_leaving 20 Tryz.f20 rfl rfl rfl rfl rfl rfl rfl ⟨rfl,rfl,rfl,rfl,rfl⟩ rfl rfl rfl rfl rfl MW Tryz.func20 Ql Qn Qo (fun os started H enc _=>Qk os started H enc)
theorem toothKnown_card:Rows.ToothKnownCardSaid:=
 Claim7.Qj .later true [] [.handle] true (true,"69365d541d10418e9c50f3fa49e39882b4000503ae382df684d84938b40f1694") true
  Qm (fun _ h=>by cases h) (by kernel_rfl) (fun _ h=>by cases h) toothKnown_row_tie rfl ⟨rfl,rfl⟩ Tryz.KN.2.2.2 rfl
  (fun f fn K O=>by
   obtain rfl:f=20:=Option.some.inj (MW.symm.trans K) |>.symm
   obtain rfl:fn=Tryz.f20:=(Option.some.inj (Tryz.func20.symm.trans O)).symm
   exact⟨Tryz.Um,fun j t ht=>by
    rw [Tryz.params20] at ht
    simp at ht⟩)
  Qp
#print axioms toothKnown_card
end Go.Proofs.YtboibffcmhheiaaGreatDoor
