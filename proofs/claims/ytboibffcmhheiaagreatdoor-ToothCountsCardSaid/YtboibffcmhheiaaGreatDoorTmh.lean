/- toothCounts_card. Part 8 of 8. -/
import Derived.Test.YtboibffcmhheiaaGreatDoorTmc
import Derived.Test.YtboibffcmhheiaaGreatDoorTme
import Derived.Test.YtboibffcmhheiaaGreatDoorTmg
import Derived.Test.YtboibffcmhheiaaGreatDoorTie
import Derived.Test.YtboibffcmhheiaaGreatDoorCards
import Derived.SevenTiedAt
set_option linter.all false
set_option maxRecDepth 100000
namespace Go.Proofs.YtboibffcmhheiaaGreatDoor
open Go Pal Go.Conc Go.ChangeShapes Go.WideShapes Go.ChangeAt Go.RowKit
theorem VO:ID 4000000000=some true:=by decide+kernel
theorem TW(os:Os)(started:os.Started)(H:Type)(enc:TypeId×Value→H):
  ReturnsInLeavingWide {} Tryz.checked os 3 .any (fun w args=>(Rows.toothCountsSpec.pre enc Tryz.prog Tryz.f3 [] false w args∧laidMetH Tryz.prog [("errors.errorType",Rows.laid_errors_errorType)] w)∧sizedMet enc Tryz.prog Tryz.f3 (OpenSpec.ofChange Rows.toothCountsSpec) false w args)
   (Rows.toothCountsSpec.post enc Tryz.prog Tryz.f3 false true false false):=by
 refine returnsInLeavingWide_of_good (C:=Tryz.checked) Pal.Tryz.own started
  (ChangeSpec.witness_at (enc:=enc) (C:=Tryz.checked) (os:=os) (X:=fun w _=>laidMetH Tryz.prog [("errors.errorType",Rows.laid_errors_errorType)] w) false (QG os) #[.agg #[.slice none 0 0,.slice none 0 0],.slice none 0 0,.agg #[iV 0,iV 0],.slice none 0 0] 8 rfl (by kernel_rfl) (by kernel_rfl) (by kernel_rfl) (by kernel_rfl) (by kernel_rfl) (T4 os _)) ?_
 intro w tape i _ _ _ a0 a1 _;obtain⟨_,_,_,a2,a3,_,_,_,_,Y⟩:=a0;have a4:a2=Tryz.f3:=Option.some.inj (a3.symm.trans Tryz.func3);subst a4;obtain⟨⟨⟨ds,gs,before,hw,bH⟩,Z⟩,bI⟩:=a1;have hW:=DataW.Whole.of_heap (w':=w.forCall tape i) (by rfl) hw;generalize w.forCall tape i=W at hW Y Z ⊢;have U:∀(j:Nat) t v,Tryz.f3.params[j]? =some t→i.args[j]? =some v→Value.okWide Tryz.prog W .any w.heap.size t v:=Y;have V:=hW;obtain⟨p,q,a5,a6,rfl,_,_⟩:=hW;have K:DataW.TrodAll enc Tryz.prog W 0 (fun _=>true) true Tryz.f3.params.toList i.args.toList ds p:=a5;rw [Tryz.params3] at K U;obtain⟨blocks,args,vars⟩:=i;simp only at K U V ⊢;obtain⟨v0,_,d0,_,p0,_,bJ,rfl,rfl,ag,K⟩:=trodAll_cons K;obtain⟨v1,_,d1,_,p1,_,rfl,rfl,rfl,al,K⟩:=trodAll_cons K;obtain⟨v2,_,d2,_,p2,_,rfl,rfl,rfl,am,K⟩:=trodAll_cons K;obtain⟨ap,_,d3,_,p3,_,rfl,rfl,rfl,av,K⟩:=trodAll_cons K;obtain⟨rfl,rfl,rfl⟩:=trodAll_nil K;obtain rfl:args= #[v0,v1,v2,ap]:=by cases args;simp_all
 obtain⟨rfl,rfl⟩:=trodVars_none a6;simp only [List.append_nil] at V;have a7:∀x∈p0++(p1++(p2++p3)),x.block<W.heap.size:=fun x O=>by simpa using V.lt x O
 obtain⟨bK,bL,bM,bN,a8,rfl,g0,a9⟩:=Xc (U 0 24 v0 rfl rfl) ag;obtain⟨bO,bP,bb,rfl,bd⟩:=Vx (U 1 25 v1 rfl rfl) al;obtain⟨x2,rfl⟩:=Wo (U 2 27 v2 rfl rfl) am;obtain⟨bQ,c3,be,rfl,bi⟩:=WO (U 3 28 ap rfl rfl) av;have bo:GE (Ej W).E:=Xv Z;have bv:=Xi (E:=(Ej W).E) (H:=fun _=>none) bo g0 a9 bd bi (fuel:=4000000000) (Y8 (by omega) VO a8 bb x2 be);obtain⟨M,last,o,w',bw,k1,bz,bA,bB⟩:=Wk bv;refine⟨M,last,o,w',bw,k1,bz,bA,bB.mono fun v bC=>?_⟩;obtain⟨⟨s,rfl⟩,hb⟩:=Ub bC;refine ChangeSpec.post_blind (W:=W) ?_;have st:∀{t:TypeId} {v:Value} {d:DataW H} {p:List MemPlace},Tryz.prog.readableRec t=true→t<Tryz.prog.types.size→DataW.Trod enc Tryz.prog W 0 (fun _=>true) true t v d p→(∀x∈p,x∈p0++(p1++(p2++p3)))→DataW.Trod enc Tryz.prog w' 0 (fun b=>decide (b<W.heap.size)) true t v d p:=
  fun bD ht h bE=>Below.trod Pal.Tryz.laidOut bD ht h hb fun x O=>a7 x (bE x O)
 refine⟨_,_,_,[],p0++(p1++(p2++p3)),[],V,trodAll_mk1 (shut_bool Tryz.underlying4 true),?_,rfl,hb.frame _,fun h=>by cases h⟩;have bF:=st (by kernel_rfl) (of_decide_eq_true (by kernel_rfl)) ag (fun x O=>by simp [O]);have s1:=st (by kernel_rfl) (of_decide_eq_true (by kernel_rfl)) al (fun x O=>by simp [O]);have s2:=st (by kernel_rfl) (of_decide_eq_true (by kernel_rfl)) am (fun x O=>by simp [O]);have bG:=st (by kernel_rfl) (of_decide_eq_true (by kernel_rfl)) av (fun x O=>by simp [O]);exact trodAll_mk4 bF s1 s2 bG
end Go.Proofs.YtboibffcmhheiaaGreatDoor
namespace Go.Proofs.YtboibffcmhheiaaGreatDoor
open Go Pal
theorem TY:Rows.ToothCountsSaid:=OpenClaim.holds_of_wide_leaving 3 Tryz.f3 rfl rfl rfl rfl rfl rfl rfl ⟨rfl,rfl,rfl,rfl,rfl⟩ rfl rfl rfl rfl rfl PU Tryz.func3 TX T0 TZ (fun os started H enc _=>TW os started H enc)
theorem toothCounts_card:Rows.ToothCountsCardSaid:=
 Claim7.TV .later true [] [.handle] true (true,"69365d541d10418e9c50f3fa49e39882b4000503ae382df684d84938b40f1694") true
  TY (fun _ h=>by cases h) (by kernel_rfl) (fun _ h=>by cases h) toothCounts_row_tie rfl ⟨rfl,rfl⟩ Tryz.MT.2.2.2 rfl
  (fun f fn K O=>by
   obtain rfl:f=3:=Option.some.inj (PU.symm.trans K) |>.symm
   obtain rfl:fn=Tryz.f3:=(Option.some.inj (Tryz.func3.symm.trans O)).symm
   exact⟨Tryz.Zm,fun j t ht=>by
    rw [Tryz.params3] at ht
    have U:t=24∨t=25∨t=27∨t=28:=by
     have:=Array.mem_of_getElem? ht
     simp at this
     omega
    rcases U with rfl | rfl | rfl | rfl
    ·exact(show Tryz.prog.wantsStandIn 24=false by kernel_rfl)
    ·exact(show Tryz.prog.wantsStandIn 25=false by kernel_rfl)
    ·exact(show Tryz.prog.wantsStandIn 27=false by kernel_rfl)
    ·exact(show Tryz.prog.wantsStandIn 28=false by kernel_rfl)⟩)
  T1
#print axioms toothCounts_card
end Go.Proofs.YtboibffcmhheiaaGreatDoor
