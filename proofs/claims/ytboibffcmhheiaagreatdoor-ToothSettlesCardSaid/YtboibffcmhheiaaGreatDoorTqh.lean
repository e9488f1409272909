/- ToothSettles. Part 8 of 8. -/
import Derived.Test.YtboibffcmhheiaaGreatDoorTqc
import Derived.Test.YtboibffcmhheiaaGreatDoorTqe
import Derived.Test.YtboibffcmhheiaaGreatDoorTqg
import Derived.Test.YtboibffcmhheiaaGreatDoorTie
import Derived.Test.YtboibffcmhheiaaGreatDoorCards
import Derived.SevenTiedAt
set_option linter.all false
set_option maxRecDepth 100000
namespace Go.Proofs.YtboibffcmhheiaaGreatDoor
open Go Pal Go.Conc Go.ChangeShapes Go.WideShapes Go.ChangeAt Go.RowKit
theorem WZ:Km 4000000000=some true:=by decide+kernel
theorem T6(os:Os)(started:os.Started)(H:Type)(enc:TypeId×Value→H):
  ReturnsInLeavingWide {} Tryz.checked os 4 .any (fun w args=>(Rows.toothSettlesSpec.pre enc Tryz.prog Tryz.f4 [] false w args∧laidMetH Tryz.prog [("errors.errorType",Rows.laid_errors_errorType)] w)∧sizedMet enc Tryz.prog Tryz.f4 (OpenSpec.ofChange Rows.toothSettlesSpec) false w args)
   (Rows.toothSettlesSpec.post enc Tryz.prog Tryz.f4 false true false false):=by
 refine returnsInLeavingWide_of_good (C:=Tryz.checked) Pal.Tryz.own started
  (ChangeSpec.witness_at (enc:=enc) (C:=Tryz.checked) (os:=os) (X:=fun w _=>laidMetH Tryz.prog [("errors.errorType",Rows.laid_errors_errorType)] w) false (Rf os) #[.agg #[.slice none 0 0,.slice none 0 0],.slice none 0 0,.agg #[iV 0,iV 0],.slice none 0 0] 8 rfl (by kernel_rfl) (by kernel_rfl) (by kernel_rfl) (by kernel_rfl) (by kernel_rfl) (Ui os _)) ?_
 intro w tape i _ _ _ a0 a1 _;obtain⟨_,_,_,a2,a3,_,_,_,_,Y⟩:=a0;have a4:a2=Tryz.f4:=Option.some.inj (a3.symm.trans Tryz.func4);subst a4;obtain⟨⟨⟨ds,gs,before,hw,b3⟩,Z⟩,b4⟩:=a1;have hW:=DataW.Whole.of_heap (w':=w.forCall tape i) (by rfl) hw;generalize w.forCall tape i=W at hW Y Z ⊢;have U:∀(j:Nat) t v,Tryz.f4.params[j]? =some t→i.args[j]? =some v→Value.okWide Tryz.prog W .any w.heap.size t v:=Y;have V:=hW;obtain⟨p,q,a5,a6,rfl,_,_⟩:=hW;have K:DataW.TrodAll enc Tryz.prog W 0 (fun _=>true) true Tryz.f4.params.toList i.args.toList ds p:=a5;rw [Tryz.params4] at K U;obtain⟨blocks,args,vars⟩:=i;simp only at K U V ⊢;obtain⟨v0,_,d0,_,p0,_,b5,rfl,rfl,ag,K⟩:=trodAll_cons K;obtain⟨v1,_,d1,_,p1,_,rfl,rfl,rfl,al,K⟩:=trodAll_cons K;obtain⟨v2,_,d2,_,p2,_,rfl,rfl,rfl,am,K⟩:=trodAll_cons K;obtain⟨ap,_,d3,_,p3,_,rfl,rfl,rfl,av,K⟩:=trodAll_cons K;obtain⟨rfl,rfl,rfl⟩:=trodAll_nil K;obtain rfl:args= #[v0,v1,v2,ap]:=by cases args;simp_all
 obtain⟨rfl,rfl⟩:=trodVars_none a6;simp only [List.append_nil] at V;have a7:∀x∈p0++(p1++(p2++p3)),x.block<W.heap.size:=fun x O=>by simpa using V.lt x O
 obtain⟨b6,b7,b8,b9,a8,rfl,g0,a9⟩:=YH (U 0 24 v0 rfl rfl) ag;obtain⟨ca,cb,bb,rfl,bd⟩:=Vt (U 1 25 v1 rfl rfl) al;obtain⟨x2,rfl⟩:=V1 (U 2 27 v2 rfl rfl) am;obtain⟨cc,c3,be,rfl,bi⟩:=WH (U 3 28 ap rfl rfl) av;have bo:GE (El W).E:=X7 Z;have bv:=XJ (E:=(El W).E) (H:=fun _=>none) bo g0 a9 bd bi (fuel:=4000000000) (ao (by omega) WZ a8 bb x2 be);obtain⟨M,last,o,w',bw,k1,bU,bV,bW⟩:=Wc bv;refine⟨M,last,o,w',bw,k1,bU,bV,bW.mono fun v bY=>?_⟩;obtain⟨⟨s,rfl⟩,hb⟩:=Ut bY;refine ChangeSpec.post_blind (W:=W) ?_;have st:∀{t:TypeId} {v:Value} {d:DataW H} {p:List MemPlace},Tryz.prog.readableRec t=true→t<Tryz.prog.types.size→DataW.Trod enc Tryz.prog W 0 (fun _=>true) true t v d p→(∀x∈p,x∈p0++(p1++(p2++p3)))→DataW.Trod enc Tryz.prog w' 0 (fun b=>decide (b<W.heap.size)) true t v d p:=
  fun bZ ht h b0=>Below.trod Pal.Tryz.laidOut bZ ht h hb fun x O=>a7 x (b0 x O)
 refine⟨_,_,_,[],p0++(p1++(p2++p3)),[],V,trodAll_mk1 (shut_bool Tryz.underlying4 true),?_,rfl,hb.frame _,fun h=>by cases h⟩;have b1:=st (by kernel_rfl) (of_decide_eq_true (by kernel_rfl)) ag (fun x O=>by simp [O]);have s1:=st (by kernel_rfl) (of_decide_eq_true (by kernel_rfl)) al (fun x O=>by simp [O]);have s2:=st (by kernel_rfl) (of_decide_eq_true (by kernel_rfl)) am (fun x O=>by simp [O]);have b2:=st (by kernel_rfl) (of_decide_eq_true (by kernel_rfl)) av (fun x O=>by simp [O]);exact trodAll_mk4 b1 s1 s2 b2
end Go.Proofs.YtboibffcmhheiaaGreatDoor
namespace Go.Proofs.YtboibffcmhheiaaGreatDoor
open Go Pal
theorem T8:Rows.ToothSettlesSaid:=OpenClaim.holds_of_wide_leaving 4 Tryz.f4 rfl rfl rfl rfl rfl rfl rfl ⟨rfl,rfl,rfl,rfl,rfl⟩ rfl rfl rfl rfl rfl Qm Tryz.func4 Ua Ub Ud (fun os started H enc _=>T6 os started H enc)
theorem toothSettles_card:Rows.ToothSettlesCardSaid:=
 Claim7.T9 .later true [] [.handle] true (true,"69365d541d10418e9c50f3fa49e39882b4000503ae382df684d84938b40f1694") true
  T8 (fun _ h=>by cases h) (by kernel_rfl) (fun _ h=>by cases h) toothSettles_row_tie rfl ⟨rfl,rfl⟩ Tryz.NK.2.2.2 rfl
  (fun f fn K O=>by
   obtain rfl:f=4:=Option.some.inj (Qm.symm.trans K) |>.symm
   obtain rfl:fn=Tryz.f4:=(Option.some.inj (Tryz.func4.symm.trans O)).symm
   exact⟨Tryz.ZG,fun j t ht=>by
    rw [Tryz.params4] at ht
    have U:t=24∨t=25∨t=27∨t=28:=by
     have:=Array.mem_of_getElem? ht
     simp at this
     omega
    rcases U with rfl | rfl | rfl | rfl
    ·exact(show Tryz.prog.wantsStandIn 24=false by kernel_rfl)
    ·exact(show Tryz.prog.wantsStandIn 25=false by kernel_rfl)
    ·exact(show Tryz.prog.wantsStandIn 27=false by kernel_rfl)
    ·exact(show Tryz.prog.wantsStandIn 28=false by kernel_rfl)⟩)
  Uc
#print axioms toothSettles_card
end Go.Proofs.YtboibffcmhheiaaGreatDoor
