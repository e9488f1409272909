/- ToothCheats Part 8 of 8. -/
import Derived.Test.YtboibffcmhheiaaGreatDoorTsc
import Derived.Test.YtboibffcmhheiaaGreatDoorTse
import Derived.Test.YtboibffcmhheiaaGreatDoorTsg
import Derived.Test.YtboibffcmhheiaaGreatDoorTie
import Derived.Test.YtboibffcmhheiaaGreatDoorCards
import Derived.SevenTiedAt
set_option linter.all false
set_option maxRecDepth 100000
namespace Go.Proofs.YtboibffcmhheiaaGreatDoor
open Go Pal Go.Conc Go.ChangeShapes Go.WideShapes Go.ChangeAt Go.RowKit
theorem Q0:G9 4000000000=some true:=by decide+kernel
theorem O1(os:Os)(started:os.Started)(H:Type)(enc:TypeId×Value→H):
  ReturnsInLeavingWide {} Tryz.checked os 13 .any (fun w args=>(Rows.toothCheatsSpec.pre enc Tryz.prog Tryz.f13 [] false w args∧laidMetH Tryz.prog [("errors.errorType",Rows.laid_errors_errorType)] w)∧sizedMet enc Tryz.prog Tryz.f13 (OpenSpec.ofChange Rows.toothCheatsSpec) false w args)
   (Rows.toothCheatsSpec.post enc Tryz.prog Tryz.f13 false true false false):=by
 refine returnsInLeavingWide_of_good (C:=Tryz.checked) Pal.Tryz.own started
  (ChangeSpec.witness_at (enc:=enc) (C:=Tryz.checked) (os:=os) (X:=fun w _=>laidMetH Tryz.prog [("errors.errorType",Rows.laid_errors_errorType)] w) false (L3 os) #[.agg #[.slice none 0 0,.slice none 0 0],iV 0,iV 0,.slice none 0 0] 8 rfl (by kernel_rfl) (by kernel_rfl) (by kernel_rfl) (by kernel_rfl) (by kernel_rfl) (O9 os _)) ?_
 intro w tape i _ _ _ ae ag _;obtain⟨_,_,_,ah,ai,_,_,_,_,Z⟩:=ae;have aj:ah=Tryz.f13:=Option.some.inj (ai.symm.trans Tryz.func13);subst aj;obtain⟨⟨⟨ds,gs,before,hw,aG⟩,aa⟩,aH⟩:=ag;have hW:=DataW.Whole.of_heap (w':=w.forCall tape i) (by rfl) hw;generalize w.forCall tape i=W at hW Z aa ⊢;have K:∀(j:Nat) t v,Tryz.f13.params[j]? =some t→i.args[j]? =some v→Value.okWide Tryz.prog W .any w.heap.size t v:=Z;have O:=hW;obtain⟨p,q,ak,al,rfl,_,_⟩:=hW;have U:DataW.TrodAll enc Tryz.prog W 0 (fun _=>true) true Tryz.f13.params.toList i.args.toList ds p:=ak;rw [Tryz.params13] at U K;obtain⟨blocks,args,vars⟩:=i;simp only at U K O ⊢;obtain⟨v0,v1,v2,am,d0,d1,d2,d3,p0,p1,p2,p3,rfl,rfl,rfl,ab,an,ao,ac⟩:=trodAll_four U;obtain⟨rfl,rfl⟩:=trodVars_none al;simp only [List.append_nil] at O;have ap:∀x∈p0++p1++p2++p3,x.block<W.heap.size:=fun x A=>by simpa using O.lt x A
 obtain⟨aI,aJ,aK,c2,J,rfl,aq,ar⟩:=Rx (K 0 24 v0 rfl rfl) ab;obtain⟨z1,rfl⟩:=MW (K 1 3 v1 rfl rfl);obtain⟨au,rfl⟩:=MW (K 2 3 v2 rfl rfl);obtain⟨aL,c3,Hc,rfl,av⟩:=Q4 (K 3 28 am rfl rfl) ac;have aw:GE (DC W).E:=Ro aa;have ay:=Qu (E:=(DC W).E) (H:=fun _=>none) aw aq ar av (fuel:=4000000000) (Rj (by omega) Q0 J z1 au Hc);obtain⟨M,last,o,w',az,k1,aA,aB,aC⟩:=QQ ay;refine⟨M,last,o,w',az,k1,aA,aB,aC.mono fun v aD=>?_⟩;obtain⟨⟨s,rfl⟩,hb⟩:=Pg aD;refine ChangeSpec.post_blind (W:=W) ?_;have st:∀{t:TypeId} {v:Value} {d:DataW H} {p:List MemPlace},Tryz.prog.readableRec t=true→t<Tryz.prog.types.size→DataW.Trod enc Tryz.prog W 0 (fun _=>true) true t v d p→(∀x∈p,x∈p0++p1++p2++p3)→DataW.Trod enc Tryz.prog w' 0 (fun b=>decide (b<W.heap.size)) true t v d p:=
  fun aE ht h aF=>Below.trod Pal.Tryz.laidOut aE ht h hb fun x A=>ap x (aF x A)
 refine⟨_,_,_,[],p0++(p1++(p2++p3)),[],O,trodAll_mk1 (shut_bool Tryz.underlying4 true),?_,rfl,hb.frame _,fun h=>by cases h⟩;exact trodAll_mk4 (st (by kernel_rfl) (of_decide_eq_true (by kernel_rfl)) ab (fun x A=>by simp [A])) (st (by kernel_rfl) (of_decide_eq_true (by kernel_rfl)) an (fun x A=>by simp [A])) (st (by kernel_rfl) (of_decide_eq_true (by kernel_rfl)) ao (fun x A=>by simp [A])) (st (by kernel_rfl) (of_decide_eq_true (by kernel_rfl)) ac (fun x A=>by simp [A]))
end Go.Proofs.YtboibffcmhheiaaGreatDoor
namespace Go.Proofs.YtboibffcmhheiaaGreatDoor
open Go Pal
theorem O3:Rows.ToothCheatsSaid:=OpenClaim.holds_of_wide_leaving 13 Tryz.f13 rfl rfl rfl rfl rfl rfl rfl ⟨rfl,rfl,rfl,rfl,rfl⟩ rfl rfl rfl rfl rfl Lq Tryz.func13 O2 O5 O6 (fun os started H enc _=>O1 os started H enc)
theorem toothCheats_card:Rows.ToothCheatsCardSaid:=
 Claim7.O0 .later true [] [.handle] true (true,"69365d541d10418e9c50f3fa49e39882b4000503ae382df684d84938b40f1694") true
  O3 (fun _ h=>by cases h) (by kernel_rfl) (fun _ h=>by cases h) toothCheats_row_tie rfl ⟨rfl,rfl⟩ Tryz.I5.2.2.2 rfl
  (fun f fn A K=>by
   obtain rfl:f=13:=Option.some.inj (Lq.symm.trans A) |>.symm
   obtain rfl:fn=Tryz.f13:=(Option.some.inj (Tryz.func13.symm.trans K)).symm
   exact⟨Tryz.Su,fun j t ht=>by
    rw [Tryz.params13] at ht
    have O:t=24∨t=3∨t=28:=by
     have:=Array.mem_of_getElem? ht
     simp at this
     omega
    rcases O with rfl | rfl | rfl
    ·exact(show Tryz.prog.wantsStandIn 24=false by kernel_rfl)
    ·exact(show Tryz.prog.wantsStandIn 3=false by kernel_rfl)
    ·exact(show Tryz.prog.wantsStandIn 28=false by kernel_rfl)⟩)
  O4
#print axioms toothCheats_card
end Go.Proofs.YtboibffcmhheiaaGreatDoor
