/- ToothAlikes. Part 8 of 8. -/
import Derived.Test.YtboibffcmhheiaaGreatDoorToc
import Derived.Test.YtboibffcmhheiaaGreatDoorToe
import Derived.Test.YtboibffcmhheiaaGreatDoorTog
import Derived.Test.YtboibffcmhheiaaGreatDoorTie
import Derived.Test.YtboibffcmhheiaaGreatDoorCards
import Derived.SevenTiedAt
set_option linter.all false
set_option maxRecDepth 100000
namespace Go.Proofs.YtboibffcmhheiaaGreatDoor
open Go Pal Go.Conc Go.ChangeShapes Go.WideShapes Go.ChangeAt Go.RowKit
theorem VV:J9 4000000000=some true:=by decide+kernel
theorem TJ(os:Os)(started:os.Started)(H:Type)(enc:TypeId×Value→H):
  ReturnsInLeavingWide {} Tryz.checked os 5 .any (fun w args=>(Rows.toothAlikesSpec.pre enc Tryz.prog Tryz.f5 [] false w args∧laidMetH Tryz.prog [("errors.errorType",Rows.laid_errors_errorType)] w)∧sizedMet enc Tryz.prog Tryz.f5 (OpenSpec.ofChange Rows.toothAlikesSpec) false w args)
   (Rows.toothAlikesSpec.post enc Tryz.prog Tryz.f5 false true false false):=by
 refine returnsInLeavingWide_of_good (C:=Tryz.checked) Pal.Tryz.own started
  (ChangeSpec.witness_at (enc:=enc) (C:=Tryz.checked) (os:=os) (X:=fun w _=>laidMetH Tryz.prog [("errors.errorType",Rows.laid_errors_errorType)] w) false (QO os) #[.agg #[.slice none 0 0,.slice none 0 0],.slice none 0 0,.slice none 0 0,.agg #[iV 0,iV 0],.slice none 0 0] 8 rfl (by kernel_rfl) (by kernel_rfl) (by kernel_rfl) (by kernel_rfl) (by kernel_rfl) (TU os _)) ?_
 intro w tape i _ _ _ a1 a2 _;obtain⟨_,_,_,a3,a4,_,_,_,_,Y⟩:=a1;have a5:a3=Tryz.f5:=Option.some.inj (a4.symm.trans Tryz.func5);subst a5;obtain⟨⟨⟨ds,gs,before,hw,bv⟩,Z⟩,bw⟩:=a2;have hW:=DataW.Whole.of_heap (w':=w.forCall tape i) (by rfl) hw;generalize w.forCall tape i=W at hW Y Z ⊢;have U:∀(j:Nat) t v,Tryz.f5.params[j]? =some t→i.args[j]? =some v→Value.okWide Tryz.prog W .any w.heap.size t v:=Y;have V:=hW;obtain⟨p,q,a6,a7,rfl,_,_⟩:=hW;have K:DataW.TrodAll enc Tryz.prog W 0 (fun _=>true) true Tryz.f5.params.toList i.args.toList ds p:=a6;rw [Tryz.params5] at K U;obtain⟨blocks,args,vars⟩:=i;simp only at K U V ⊢;obtain⟨v0,_,d0,_,p0,_,bx,rfl,rfl,ag,K⟩:=trodAll_cons K;obtain⟨v1,_,d1,_,p1,_,rfl,rfl,rfl,al,K⟩:=trodAll_cons K;obtain⟨v2,_,d2,_,p2,_,rfl,rfl,rfl,am,K⟩:=trodAll_cons K;obtain⟨ap,_,d3,_,p3,_,rfl,rfl,rfl,av,K⟩:=trodAll_cons K;obtain⟨v4,_,d4,_,p4,_,rfl,rfl,rfl,a0,K⟩:=trodAll_cons K;obtain⟨rfl,rfl,rfl⟩:=trodAll_nil K;obtain rfl:args= #[v0,v1,v2,ap,v4]:=by cases args;simp_all
 obtain⟨rfl,rfl⟩:=trodVars_none a7;simp only [List.append_nil] at V;have a8:∀x∈p0++(p1++(p2++(p3++p4))),x.block<W.heap.size:=fun x O=>by simpa using V.lt x O
 obtain⟨bz,bA,bB,bC,a9,rfl,g0,ba⟩:=Yp (U 0 24 v0 rfl rfl) ag;obtain⟨bD,bE,bb,rfl,bc⟩:=QF (U 1 25 v1 rfl rfl) al;obtain⟨bF,c2,x2,rfl,g2⟩:=QF (U 2 25 v2 rfl rfl) am;obtain⟨bd,rfl⟩:=VO (U 3 27 ap rfl rfl) av;obtain⟨bG,c4,be,rfl,bf⟩:=V8 (U 4 28 v4 rfl rfl) a0;have bg:GE (Ek W).E:=XI Z;have bh:=X0 (E:=(Ek W).E) (H:=fun _=>none) bg g0 ba bc g2 bf (fuel:=4000000000) (Zy (by omega) VV a9 bb x2 bd be);obtain⟨M,last,o,w',bi,k1,bj,bl,bm⟩:=Wg bh;refine⟨M,last,o,w',bi,k1,bj,bl,bm.mono fun v bn=>?_⟩;obtain⟨⟨s,rfl⟩,hb⟩:=T5 bn;refine ChangeSpec.post_blind (W:=W) ?_;have st:∀{t:TypeId} {v:Value} {d:DataW H} {p:List MemPlace},Tryz.prog.readableRec t=true→t<Tryz.prog.types.size→DataW.Trod enc Tryz.prog W 0 (fun _=>true) true t v d p→(∀x∈p,x∈p0++(p1++(p2++(p3++p4))))→DataW.Trod enc Tryz.prog w' 0 (fun b=>decide (b<W.heap.size)) true t v d p:=
  fun bo ht h bp=>Below.trod Pal.Tryz.laidOut bo ht h hb fun x O=>a8 x (bp x O)
 refine⟨_,_,_,[],p0++(p1++(p2++(p3++p4))),[],V,trodAll_mk1 (shut_bool Tryz.underlying4 true),?_,rfl,hb.frame _,fun h=>by cases h⟩;have bq:=st (by kernel_rfl) (of_decide_eq_true (by kernel_rfl)) ag (fun x O=>by simp [O]);have s1:=st (by kernel_rfl) (of_decide_eq_true (by kernel_rfl)) al (fun x O=>by simp [O]);have s2:=st (by kernel_rfl) (of_decide_eq_true (by kernel_rfl)) am (fun x O=>by simp [O]);have br:=st (by kernel_rfl) (of_decide_eq_true (by kernel_rfl)) av (fun x O=>by simp [O]);have bu:=st (by kernel_rfl) (of_decide_eq_true (by kernel_rfl)) a0 (fun x O=>by simp [O]);exact⟨_,_,bq,trodAll_mk4 s1 s2 br bu,rfl⟩
end Go.Proofs.YtboibffcmhheiaaGreatDoor
namespace Go.Proofs.YtboibffcmhheiaaGreatDoor
open Go Pal
theorem TK:Rows.ToothAlikesSaid:=OpenClaim.holds_of_wide_leaving 5 Tryz.f5 rfl rfl rfl rfl rfl rfl rfl ⟨rfl,rfl,rfl,rfl,rfl⟩ rfl rfl rfl rfl rfl PV Tryz.func5 TL TM TN (fun os started H enc _=>TJ os started H enc)
theorem toothAlikes_card:Rows.ToothAlikesCardSaid:=
 Claim7.TI .later true [] [.handle] true (true,"69365d541d10418e9c50f3fa49e39882b4000503ae382df684d84938b40f1694") true
  TK (fun _ h=>by cases h) (by kernel_rfl) (fun _ h=>by cases h) toothAlikes_row_tie rfl ⟨rfl,rfl⟩ Tryz.Ng.2.2.2 rfl
  (fun f fn K O=>by
   obtain rfl:f=5:=Option.some.inj (PV.symm.trans K) |>.symm
   obtain rfl:fn=Tryz.f5:=(Option.some.inj (Tryz.func5.symm.trans O)).symm
   exact⟨Tryz.Z0,fun j t ht=>by
    rw [Tryz.params5] at ht
    have U:t=24∨t=25∨t=27∨t=28:=by
     have:=Array.mem_of_getElem? ht
     simp at this
     omega
    rcases U with rfl | rfl | rfl | rfl
    ·exact(show Tryz.prog.wantsStandIn 24=false by kernel_rfl)
    ·exact(show Tryz.prog.wantsStandIn 25=false by kernel_rfl)
    ·exact(show Tryz.prog.wantsStandIn 27=false by kernel_rfl)
    ·exact(show Tryz.prog.wantsStandIn 28=false by kernel_rfl)⟩)
  TO
#print axioms toothAlikes_card
end Go.Proofs.YtboibffcmhheiaaGreatDoor
