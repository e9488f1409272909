/- ToothAges. Part 8 of 8. -/
import Derived.Test.YtboibffcmhheiaaGreatDoorTnc
import Derived.Test.YtboibffcmhheiaaGreatDoorTne
import Derived.Test.YtboibffcmhheiaaGreatDoorTng
import Derived.Test.YtboibffcmhheiaaGreatDoorTie
import Derived.Test.YtboibffcmhheiaaGreatDoorCards
import Derived.SevenTiedAt
set_option linter.all false
set_option maxRecDepth 100000
namespace Go.Proofs.YtboibffcmhheiaaGreatDoor
open Go Pal Go.Conc Go.ChangeShapes Go.WideShapes Go.ChangeAt Go.RowKit
theorem Wm:IJ 4000000000=some true:=by decide+kernel
theorem TI(os:Os)(started:os.Started)(H:Type)(enc:TypeId×Value→H):
  ReturnsInLeavingWide {} Tryz.checked os 15 .any (fun w args=>(Rows.toothAgesSpec.pre enc Tryz.prog Tryz.f15 [] false w args∧laidMetH Tryz.prog [("errors.errorType",Rows.laid_errors_errorType)] w)∧sizedMet enc Tryz.prog Tryz.f15 (OpenSpec.ofChange Rows.toothAgesSpec) false w args)
   (Rows.toothAgesSpec.post enc Tryz.prog Tryz.f15 false true false false):=by
 refine returnsInLeavingWide_of_good (C:=Tryz.checked) Pal.Tryz.own started
  (ChangeSpec.witness_at (enc:=enc) (C:=Tryz.checked) (os:=os) (X:=fun w _=>laidMetH Tryz.prog [("errors.errorType",Rows.laid_errors_errorType)] w) false (Qq os) #[.agg #[.slice none 0 0,.slice none 0 0],.slice none 0 0,.agg #[iV 0,iV 0],iV 0,.slice none 0 0] 8 rfl (by kernel_rfl) (by kernel_rfl) (by kernel_rfl) (by kernel_rfl) (by kernel_rfl) (TV os _)) ?_
 intro w tape i _ _ _ a0 a1 _;obtain⟨_,_,_,a2,a3,_,_,_,_,Y⟩:=a0;have a4:a2=Tryz.f15:=Option.some.inj (a3.symm.trans Tryz.func15);subst a4;obtain⟨⟨⟨ds,gs,before,hw,bE⟩,Z⟩,bF⟩:=a1;have hW:=DataW.Whole.of_heap (w':=w.forCall tape i) (by rfl) hw;generalize w.forCall tape i=W at hW Y Z ⊢;have U:∀(j:Nat) t v,Tryz.f15.params[j]? =some t→i.args[j]? =some v→Value.okWide Tryz.prog W .any w.heap.size t v:=Y;have V:=hW;obtain⟨p,q,a5,a6,rfl,_,_⟩:=hW;have K:DataW.TrodAll enc Tryz.prog W 0 (fun _=>true) true Tryz.f15.params.toList i.args.toList ds p:=a5;rw [Tryz.params15] at K U;obtain⟨blocks,args,vars⟩:=i;simp only at K U V ⊢;obtain⟨v0,_,d0,_,p0,_,bG,rfl,rfl,ag,K⟩:=trodAll_cons K;obtain⟨v1,_,d1,_,p1,_,rfl,rfl,rfl,al,K⟩:=trodAll_cons K;obtain⟨v2,_,d2,_,p2,_,rfl,rfl,rfl,am,K⟩:=trodAll_cons K;obtain⟨ap,_,d3,_,p3,_,rfl,rfl,rfl,a7,K⟩:=trodAll_cons K;obtain⟨v4,_,d4,_,p4,_,rfl,rfl,rfl,av,K⟩:=trodAll_cons K;obtain⟨rfl,rfl,rfl⟩:=trodAll_nil K;obtain rfl:args= #[v0,v1,v2,ap,v4]:=by cases args;simp_all
 obtain⟨rfl,rfl⟩:=trodVars_none a6;simp only [List.append_nil] at V;have a8:∀x∈p0++(p1++(p2++(p3++p4))),x.block<W.heap.size:=fun x O=>by simpa using V.lt x O
 obtain⟨bH,bI,bJ,bK,a9,rfl,g0,bb⟩:=WX (U 0 24 v0 rfl rfl) ag;obtain⟨bL,bM,bd,rfl,be⟩:=Vk (U 1 25 v1 rfl rfl) al;obtain⟨x2,rfl⟩:=WB (U 2 27 v2 rfl rfl) am;obtain⟨bi,rfl⟩:=X9 (U 3 3 ap rfl rfl);obtain⟨bN,c4,bn,rfl,bo⟩:=VZ (U 4 28 v4 rfl rfl) av;have bp:GE (Ef W).E:=Xw Z;have bq:=V4 (E:=(Ef W).E) (H:=fun _=>none) bp g0 bb be bo (fuel:=4000000000) (XI (by omega) Wm a9 bd x2 bi bn);obtain⟨M,last,o,w',br,k1,bu,bv,bw⟩:=WE bq;refine⟨M,last,o,w',br,k1,bu,bv,bw.mono fun v bx=>?_⟩;obtain⟨⟨s,rfl⟩,hb⟩:=T7 bx;refine ChangeSpec.post_blind (W:=W) ?_;have st:∀{t:TypeId} {v:Value} {d:DataW H} {p:List MemPlace},Tryz.prog.readableRec t=true→t<Tryz.prog.types.size→DataW.Trod enc Tryz.prog W 0 (fun _=>true) true t v d p→(∀x∈p,x∈p0++(p1++(p2++(p3++p4))))→DataW.Trod enc Tryz.prog w' 0 (fun b=>decide (b<W.heap.size)) true t v d p:=
  fun bz ht h bA=>Below.trod Pal.Tryz.laidOut bz ht h hb fun x O=>a8 x (bA x O)
 refine⟨_,_,_,[],p0++(p1++(p2++(p3++p4))),[],V,trodAll_mk1 (shut_bool Tryz.underlying4 true),?_,rfl,hb.frame _,fun h=>by cases h⟩;have bB:=st (by kernel_rfl) (of_decide_eq_true (by kernel_rfl)) ag (fun x O=>by simp [O]);have s1:=st (by kernel_rfl) (of_decide_eq_true (by kernel_rfl)) al (fun x O=>by simp [O]);have s2:=st (by kernel_rfl) (of_decide_eq_true (by kernel_rfl)) am (fun x O=>by simp [O]);have bC:=st (by kernel_rfl) (of_decide_eq_true (by kernel_rfl)) a7 (fun x O=>by simp [O]);have bD:=st (by kernel_rfl) (of_decide_eq_true (by kernel_rfl)) av (fun x O=>by simp [O]);exact⟨_,_,bB,trodAll_mk4 s1 s2 bC bD,rfl⟩
end Go.Proofs.YtboibffcmhheiaaGreatDoor
namespace Go.Proofs.YtboibffcmhheiaaGreatDoor
open Go Pal
theorem TK:Rows.ToothAgesSaid:=OpenClaim.holds_of_wide_leaving 15 Tryz.f15 rfl rfl rfl rfl rfl rfl rfl ⟨rfl,rfl,rfl,rfl,rfl⟩ rfl rfl rfl rfl rfl PY Tryz.func15 TJ TO TM (fun os started H enc _=>TI os started H enc)
theorem toothAges_card:Rows.ToothAgesCardSaid:=
 Claim7.TH .later true [] [.handle] true (true,"69365d541d10418e9c50f3fa49e39882b4000503ae382df684d84938b40f1694") true
  TK (fun _ h=>by cases h) (by kernel_rfl) (fun _ h=>by cases h) toothAges_row_tie rfl ⟨rfl,rfl⟩ Tryz.Ng.2.2.2 rfl
  (fun f fn K O=>by
   obtain rfl:f=15:=Option.some.inj (PY.symm.trans K) |>.symm
   obtain rfl:fn=Tryz.f15:=(Option.some.inj (Tryz.func15.symm.trans O)).symm
   exact⟨Tryz.Zm,fun j t ht=>by
    rw [Tryz.params15] at ht
    have U:t=24∨t=25∨t=27∨t=3∨t=28:=by
     have:=Array.mem_of_getElem? ht
     simp at this
     omega
    rcases U with rfl | rfl | rfl | rfl | rfl
    ·exact(show Tryz.prog.wantsStandIn 24=false by kernel_rfl)
    ·exact(show Tryz.prog.wantsStandIn 25=false by kernel_rfl)
    ·exact(show Tryz.prog.wantsStandIn 27=false by kernel_rfl)
    ·exact(show Tryz.prog.wantsStandIn 3=false by kernel_rfl)
    ·exact(show Tryz.prog.wantsStandIn 28=false by kernel_rfl)⟩)
  TP
#print axioms toothAges_card
end Go.Proofs.YtboibffcmhheiaaGreatDoor
