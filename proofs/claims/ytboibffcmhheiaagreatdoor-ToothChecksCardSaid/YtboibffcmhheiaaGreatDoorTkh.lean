/- ToothChecks. Part 8 of 8. -/
import Derived.Test.YtboibffcmhheiaaGreatDoorTkc
import Derived.Test.YtboibffcmhheiaaGreatDoorTke
import Derived.Test.YtboibffcmhheiaaGreatDoorTkg
import Derived.Test.YtboibffcmhheiaaGreatDoorTie
import Derived.Test.YtboibffcmhheiaaGreatDoorCards
import Derived.SevenTiedAt
set_option linter.all false
set_option maxRecDepth 100000
namespace Go.Proofs.YtboibffcmhheiaaGreatDoor
open Go Pal Go.Conc Go.ChangeShapes Go.WideShapes Go.ChangeAt Go.RowKit
theorem SK:Ht 4000000000=some true:=by decide+kernel
theorem Qb(os:Os)(started:os.Started)(H:Type)(enc:TypeId×Value→H):
  ReturnsInLeavingWide {} Tryz.checked os 18 .any (fun w args=>(Rows.toothChecksSpec.pre enc Tryz.prog Tryz.f18 [] false w args∧laidMetH Tryz.prog [("errors.errorType",Rows.laid_errors_errorType)] w)∧sizedMet enc Tryz.prog Tryz.f18 (OpenSpec.ofChange Rows.toothChecksSpec) false w args)
   (Rows.toothChecksSpec.post enc Tryz.prog Tryz.f18 false true false false):=by
 refine returnsInLeavingWide_of_good (C:=Tryz.checked) Pal.Tryz.own started
  (ChangeSpec.witness_at (enc:=enc) (C:=Tryz.checked) (os:=os) (X:=fun w _=>laidMetH Tryz.prog [("errors.errorType",Rows.laid_errors_errorType)] w) false (M6 os) #[.agg #[.slice none 0 0,.slice none 0 0],.slice none 0 0,.agg #[iV 0,iV 0],iV 0,iV 0,.slice none 0 0] 8 rfl (by kernel_rfl) (by kernel_rfl) (by kernel_rfl) (by kernel_rfl) (by kernel_rfl) (Qo os _)) ?_
 intro w tape i _ _ _ ai aj _;obtain⟨_,_,_,ak,al,_,_,_,_,Y⟩:=ai;have am:ak=Tryz.f18:=Option.some.inj (al.symm.trans Tryz.func18);subst am;obtain⟨⟨⟨ds,gs,before,hw,aM⟩,Z⟩,aN⟩:=aj;have hW:=DataW.Whole.of_heap (w':=w.forCall tape i) (by rfl) hw;generalize w.forCall tape i=W at hW Y Z ⊢;have U:∀(j:Nat) t v,Tryz.f18.params[j]? =some t→i.args[j]? =some v→Value.okWide Tryz.prog W .any w.heap.size t v:=Y;have V:=hW;obtain⟨p,q,an,ao,rfl,_,_⟩:=hW;have K:DataW.TrodAll enc Tryz.prog W 0 (fun _=>true) true Tryz.f18.params.toList i.args.toList ds p:=an;rw [Tryz.params18] at K U;obtain⟨blocks,args,vars⟩:=i;simp only at K U V ⊢;obtain⟨v0,_,d0,_,p0,_,aO,rfl,rfl,aa,K⟩:=trodAll_cons K;obtain⟨v1,_,d1,_,p1,_,rfl,rfl,rfl,ab,K⟩:=trodAll_cons K;obtain⟨v2,_,d2,_,p2,_,rfl,rfl,rfl,ac,K⟩:=trodAll_cons K;obtain⟨ae,_,d3,_,p3,_,rfl,rfl,rfl,h3,K⟩:=trodAll_cons K;obtain⟨v4,_,d4,_,p4,_,rfl,rfl,rfl,ap,K⟩:=trodAll_cons K;obtain⟨ag,_,d5,_,p5,_,rfl,rfl,rfl,ah,K⟩:=trodAll_cons K;obtain⟨rfl,rfl,rfl⟩:=trodAll_nil K;obtain rfl:args= #[v0,v1,v2,ae,v4,ag]:=by cases args;simp_all
 obtain⟨rfl,rfl⟩:=trodVars_none ao;simp only [List.append_nil] at V;have aq:∀x∈p0++(p1++(p2++(p3++(p4++p5)))),x.block<W.heap.size:=fun x O=>by simpa using V.lt x O
 obtain⟨a1,aP,aQ,c2,J,rfl,ar,au⟩:=Th (U 0 24 v0 rfl rfl) aa;obtain⟨aR,c3,av,rfl,aw⟩:=Rv (U 1 25 v1 rfl rfl) ab;obtain⟨l,rfl⟩:=SQ (U 2 27 v2 rfl rfl) ac;obtain⟨z1,rfl⟩:=Ox (U 3 3 ae rfl rfl);obtain⟨ay,rfl⟩:=Ox (U 4 3 v4 rfl rfl);obtain⟨a4,c4,Hz,rfl,az⟩:=RQ (U 5 28 ag rfl rfl) ah;have hG:GE (Ct W).E:=T6 Z;have aA:=f18e_top (E:=(Ct W).E) (H:=fun _=>none) hG ar au aw az (fuel:=4000000000) (T9 (by omega) SK J av l z1 ay Hz);obtain⟨M,last,o,w',aB,k1,aC,aD,aE⟩:=SV aA;refine⟨M,last,o,w',aB,k1,aC,aD,aE.mono fun v aF=>?_⟩;obtain⟨⟨s,rfl⟩,hb⟩:=Qz aF;refine ChangeSpec.post_blind (W:=W) ?_;have st:∀{t:TypeId} {v:Value} {d:DataW H} {p:List MemPlace},Tryz.prog.readableRec t=true→t<Tryz.prog.types.size→DataW.Trod enc Tryz.prog W 0 (fun _=>true) true t v d p→(∀x∈p,x∈p0++(p1++(p2++(p3++(p4++p5)))))→DataW.Trod enc Tryz.prog w' 0 (fun b=>decide (b<W.heap.size)) true t v d p:=
  fun aG ht h aH=>Below.trod Pal.Tryz.laidOut aG ht h hb fun x O=>aq x (aH x O)
 refine⟨_,_,_,[],p0++(p1++(p2++(p3++(p4++p5)))),[],V,trodAll_mk1 (shut_bool Tryz.underlying4 true),?_,rfl,hb.frame _,fun h=>by cases h⟩;have aI:=st (by kernel_rfl) (of_decide_eq_true (by kernel_rfl)) aa (fun x O=>by simp [O]);have s1:=st (by kernel_rfl) (of_decide_eq_true (by kernel_rfl)) ab (fun x O=>by simp [O]);have s2:=st (by kernel_rfl) (of_decide_eq_true (by kernel_rfl)) ac (fun x O=>by simp [O]);have aJ:=st (by kernel_rfl) (of_decide_eq_true (by kernel_rfl)) h3 (fun x O=>by simp [O]);have aK:=st (by kernel_rfl) (of_decide_eq_true (by kernel_rfl)) ap (fun x O=>by simp [O]);have aL:=st (by kernel_rfl) (of_decide_eq_true (by kernel_rfl)) ah (fun x O=>by simp [O]);exact⟨_,_,aI,⟨_,_,s1,trodAll_mk4 s2 aJ aK aL,rfl⟩,rfl⟩
end Go.Proofs.YtboibffcmhheiaaGreatDoor
namespace Go.Proofs.YtboibffcmhheiaaGreatDoor
open Go Pal
theorem Qd:Rows.ToothChecksSaid:=OpenClaim.holds_of_wide_leaving 18 Tryz.f18 rfl rfl rfl rfl rfl rfl rfl ⟨rfl,rfl,rfl,rfl,rfl⟩ rfl rfl rfl rfl rfl My Tryz.func18 Qe Qg Qf (fun os started H enc _=>Qb os started H enc)
theorem toothChecks_card:Rows.ToothChecksCardSaid:=
 Claim7.Qc .later true [] [.handle] true (true,"69365d541d10418e9c50f3fa49e39882b4000503ae382df684d84938b40f1694") true
  Qd (fun _ h=>by cases h) (by kernel_rfl) (fun _ h=>by cases h) toothChecks_row_tie rfl ⟨rfl,rfl⟩ Tryz.JK.2.2.2 rfl
  (fun f fn K O=>by
   obtain rfl:f=18:=Option.some.inj (My.symm.trans K) |>.symm
   obtain rfl:fn=Tryz.f18:=(Option.some.inj (Tryz.func18.symm.trans O)).symm
   exact⟨Tryz.Va,fun j t ht=>by
    rw [Tryz.params18] at ht
    have h3:t=24∨t=25∨t=27∨t=3∨t=28:=by
     have:=Array.mem_of_getElem? ht
     simp at this
     omega
    rcases h3 with rfl | rfl | rfl | rfl | rfl
    ·exact(show Tryz.prog.wantsStandIn 24=false by kernel_rfl)
    ·exact(show Tryz.prog.wantsStandIn 25=false by kernel_rfl)
    ·exact(show Tryz.prog.wantsStandIn 27=false by kernel_rfl)
    ·exact(show Tryz.prog.wantsStandIn 3=false by kernel_rfl)
    ·exact(show Tryz.prog.wantsStandIn 28=false by kernel_rfl)⟩)
  Qh
#print axioms toothChecks_card
end Go.Proofs.YtboibffcmhheiaaGreatDoor
