/- toothFilings_card. Part 8 of 8. -/
import Derived.Test.YtboibffcmhheiaaGreatDoorTlc
import Derived.Test.YtboibffcmhheiaaGreatDoorTle
import Derived.Test.YtboibffcmhheiaaGreatDoorTlg
import Derived.Test.YtboibffcmhheiaaGreatDoorTie
import Derived.Test.YtboibffcmhheiaaGreatDoorCards
import Derived.SevenTiedAt
set_option linter.all false
set_option maxRecDepth 100000
namespace Go.Proofs.YtboibffcmhheiaaGreatDoor
open Go Pal Go.Conc Go.ChangeShapes Go.WideShapes Go.ChangeAt Go.RowKit
theorem Wh:ID 4000000000=some true:=by decide+kernel
theorem Ty(os:Os)(started:os.Started)(H:Type)(enc:TypeId×Value→H):
  ReturnsInLeavingWide {} Tryz.checked os 8 .any (fun w args=>(Rows.toothFilingsSpec.pre enc Tryz.prog Tryz.f8 [] false w args∧laidMetH Tryz.prog [("errors.errorType",Rows.laid_errors_errorType)] w)∧sizedMet enc Tryz.prog Tryz.f8 (OpenSpec.ofChange Rows.toothFilingsSpec) false w args)
   (Rows.toothFilingsSpec.post enc Tryz.prog Tryz.f8 false true false false):=by
 refine returnsInLeavingWide_of_good (C:=Tryz.checked) Pal.Tryz.own started
  (ChangeSpec.witness_at (enc:=enc) (C:=Tryz.checked) (os:=os) (X:=fun w _=>laidMetH Tryz.prog [("errors.errorType",Rows.laid_errors_errorType)] w) false (Ql os) #[.agg #[.slice none 0 0,.slice none 0 0],.slice none 0 0,.agg #[iV 0,iV 0],iV 0,.slice none 0 0] 8 rfl (by kernel_rfl) (by kernel_rfl) (by kernel_rfl) (by kernel_rfl) (by kernel_rfl) (TI os _)) ?_
 intro w tape i _ _ _ aY aZ _;obtain⟨_,_,_,a0,a1,_,_,_,_,Y⟩:=aY;have a2:a0=Tryz.f8:=Option.some.inj (a1.symm.trans Tryz.func8);subst a2;obtain⟨⟨⟨ds,gs,before,hw,br⟩,Z⟩,bu⟩:=aZ;have hW:=DataW.Whole.of_heap (w':=w.forCall tape i) (by rfl) hw;generalize w.forCall tape i=W at hW Y Z ⊢;have U:∀(j:Nat) t v,Tryz.f8.params[j]? =some t→i.args[j]? =some v→Value.okWide Tryz.prog W .any w.heap.size t v:=Y;have V:=hW;obtain⟨p,q,a3,a4,rfl,_,_⟩:=hW;have K:DataW.TrodAll enc Tryz.prog W 0 (fun _=>true) true Tryz.f8.params.toList i.args.toList ds p:=a3;rw [Tryz.params8] at K U;obtain⟨blocks,args,vars⟩:=i;simp only at K U V ⊢;obtain⟨v0,_,d0,_,p0,_,bv,rfl,rfl,ag,K⟩:=trodAll_cons K;obtain⟨v1,_,d1,_,p1,_,rfl,rfl,rfl,al,K⟩:=trodAll_cons K;obtain⟨v2,_,d2,_,p2,_,rfl,rfl,rfl,am,K⟩:=trodAll_cons K;obtain⟨ap,_,d3,_,p3,_,rfl,rfl,rfl,a5,K⟩:=trodAll_cons K;obtain⟨v4,_,d4,_,p4,_,rfl,rfl,rfl,av,K⟩:=trodAll_cons K;obtain⟨rfl,rfl,rfl⟩:=trodAll_nil K;obtain rfl:args= #[v0,v1,v2,ap,v4]:=by cases args;simp_all
 obtain⟨rfl,rfl⟩:=trodVars_none a4;simp only [List.append_nil] at V;have a6:∀x∈p0++(p1++(p2++(p3++p4))),x.block<W.heap.size:=fun x O=>by simpa using V.lt x O
 obtain⟨bw,bx,bz,bA,a7,rfl,g0,a8⟩:=WX (U 0 24 v0 rfl rfl) ag;obtain⟨bB,bC,a9,rfl,ba⟩:=UO (U 1 25 v1 rfl rfl) al;obtain⟨x2,rfl⟩:=VF (U 2 27 v2 rfl rfl) am;obtain⟨bb,rfl⟩:=WS (U 3 3 ap rfl rfl);obtain⟨bD,c4,bc,rfl,bd⟩:=Ws (U 4 28 v4 rfl rfl) av;have be:GE (Eh W).E:=WI Z;have bf:=XJ (E:=(Eh W).E) (H:=fun _=>none) be g0 a8 ba bd (fuel:=4000000000) (Zj (by omega) Wh a7 a9 x2 bb bc);obtain⟨M,last,o,w',bg,k1,bh,bi,bj⟩:=V1 bf;refine⟨M,last,o,w',bg,k1,bh,bi,bj.mono fun v bl=>?_⟩;obtain⟨⟨s,rfl⟩,hb⟩:=TQ bl;refine ChangeSpec.post_blind (W:=W) ?_;have st:∀{t:TypeId} {v:Value} {d:DataW H} {p:List MemPlace},Tryz.prog.readableRec t=true→t<Tryz.prog.types.size→DataW.Trod enc Tryz.prog W 0 (fun _=>true) true t v d p→(∀x∈p,x∈p0++(p1++(p2++(p3++p4))))→DataW.Trod enc Tryz.prog w' 0 (fun b=>decide (b<W.heap.size)) true t v d p:=
  fun bm ht h bn=>Below.trod Pal.Tryz.laidOut bm ht h hb fun x O=>a6 x (bn x O)
 refine⟨_,_,_,[],p0++(p1++(p2++(p3++p4))),[],V,trodAll_mk1 (shut_bool Tryz.underlying4 true),?_,rfl,hb.frame _,fun h=>by cases h⟩;have bo:=st (by kernel_rfl) (of_decide_eq_true (by kernel_rfl)) ag (fun x O=>by simp [O]);have s1:=st (by kernel_rfl) (of_decide_eq_true (by kernel_rfl)) al (fun x O=>by simp [O]);have s2:=st (by kernel_rfl) (of_decide_eq_true (by kernel_rfl)) am (fun x O=>by simp [O]);have bp:=st (by kernel_rfl) (of_decide_eq_true (by kernel_rfl)) a5 (fun x O=>by simp [O]);have bq:=st (by kernel_rfl) (of_decide_eq_true (by kernel_rfl)) av (fun x O=>by simp [O]);exact⟨_,_,bo,trodAll_mk4 s1 s2 bp bq,rfl⟩
end Go.Proofs.YtboibffcmhheiaaGreatDoor
namespace Go.Proofs.YtboibffcmhheiaaGreatDoor
open Go Pal
theorem TC:Rows.ToothFilingsSaid:=OpenClaim.holds_of_wide_leaving 8 Tryz.f8 rfl rfl rfl rfl rfl rfl rfl ⟨rfl,rfl,rfl,rfl,rfl⟩ rfl rfl rfl rfl rfl PH Tryz.func8 Tz TE TD (fun os started H enc _=>Ty os started H enc)
theorem toothFilings_card:Rows.ToothFilingsCardSaid:=
 Claim7.TB .later true [] [.handle] true (true,"69365d541d10418e9c50f3fa49e39882b4000503ae382df684d84938b40f1694") true
  TC (fun _ h=>by cases h) (by kernel_rfl) (fun _ h=>by cases h) toothFilings_row_tie rfl ⟨rfl,rfl⟩ Tryz.M0.2.2.2 rfl
  (fun f fn K O=>by
   obtain rfl:f=8:=Option.some.inj (PH.symm.trans K) |>.symm
   obtain rfl:fn=Tryz.f8:=(Option.some.inj (Tryz.func8.symm.trans O)).symm
   exact⟨Tryz.YF,fun j t ht=>by
    rw [Tryz.params8] at ht
    have U:t=24∨t=25∨t=27∨t=3∨t=28:=by
     have:=Array.mem_of_getElem? ht
     simp at this
     omega
    rcases U with rfl | rfl | rfl | rfl | rfl
    ·exact(show Tryz.prog.wantsStandIn 24=false by kernel_rfl)
    ·exact(show Tryz.prog.wantsStandIn 25=false by kernel_rfl)
    ·exact(show Tryz.prog.wantsStandIn 27=false by kernel_rfl)
    ·exact(show Tryz.prog.wantsStandIn 3=false by kernel_rfl)
    ·exact(show Tryz.prog.wantsStandIn 28=false by kernel_rfl)⟩)
  TF
#print axioms toothFilings_card
end Go.Proofs.YtboibffcmhheiaaGreatDoor
