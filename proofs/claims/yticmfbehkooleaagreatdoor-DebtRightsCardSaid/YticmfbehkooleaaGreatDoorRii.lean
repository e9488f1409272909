/- DebtRights, as the card says: for every owing, debt, payments and numbers the law returns true and each argument reads as before; calm, the variable errors.errorType laid as start-up lays it Part 9 of 9. -/
import Derived.Test.YticmfbehkooleaaGreatDoorRie
import Derived.Test.YticmfbehkooleaaGreatDoorRif
import Derived.Test.YticmfbehkooleaaGreatDoorRih
import Derived.Test.YticmfbehkooleaaGreatDoorTie
import Derived.Test.YticmfbehkooleaaGreatDoorCards
set_option linter.all false
set_option maxRecDepth 100000
namespace Go.Proofs.YticmfbehkooleaaGreatDoor
open Go Pal Go.Conc Go.ConcM Go.ChangeShapes Go.WideShapes Go.ChangeAt Go.RowKit
theorem Zt:f18 1000000000000=some true:=by decide+kernel
theorem aX{H:Type}{enc:TypeId×Value->H}{W:World}{v:Value}{O:Nat}{d:DataW H}{p:List MemPlace}(U:Value.okWide Tryz.prog W .any O 23 v)(hd:DataW.Trod enc Tryz.prog W 0 (λ_=>true) true 23 v d p):
  ∃(a:Option Addr) (c:Nat) (K:List (Int×Int×Int)),v= .slice a K.length c/\Am (rP rI (rP rI rI)) (FV W).E a c K:=by
 obtain⟨Z,len,cap,rfl⟩:=okWide_slice Tryz.underlying23 U;obtain⟨fu_,Y⟩:=hd;obtain⟨a,c,K,e,g⟩:=TQ Y;simp [Value.cells] at e;obtain⟨rfl,rfl,rfl⟩:=e;exact⟨_,_,_,rfl,g⟩
theorem XC(os:Os)(started:os.Started)(H:Type)(enc:TypeId×Value->H)(F:Stop.Interp):
  ReturnsInLeavingWide Rows.debtRightsRow.assume Tryz.checked os 3 .any (λw args=>(Rows.debtRightsSpec.pre enc Tryz.prog Tryz.f3 [] false w args/\laidMetH Tryz.prog [("errors.errorType",Rows.laid_errors_errorType)] w)/\sizedMet enc Tryz.prog Tryz.f3 (OpenSpec.ofChange Rows.debtRightsSpec) false w args) ((OpenSpec.ofChange Rows.debtRightsSpec).postWith enc Tryz.prog Tryz.f3 F (outsideKept [.timePasses]) false true false):=by
 refine returnsInLeavingWide_of_good (C:=Tryz.checked) Pal.Tryz.own started
  (XV (enc:=enc) (C:=Tryz.checked) (os:=os) (X:=λw _=>laidMetH Tryz.prog [("errors.errorType",Rows.laid_errors_errorType)] w) (TT os) #[.agg #[.slice none 0 0,.slice none 0 0],.agg #[iV 0,iV 0,iV 0],.slice none 0 0,.slice none 0 0] 8 rfl (by kernel_rfl) (by kernel_rfl) (by kernel_rfl) (by kernel_rfl) (by kernel_rfl) (XO os _)) ?_
 intro w tape i _ _ _ ap aq _;obtain⟨_,_,_,aw,a0,_,_,_,_,Z⟩:=ap;have a1:aw=Tryz.f3:=Option.some.inj (a0.symm.trans Tryz.func3);subst a1;obtain⟨⟨⟨ds,gs,before,hw,b2⟩,ac⟩,b3⟩:=aq;have hW:=DataW.Whole.of_heap (w':=w.forCall tape i) (by rfl) hw;generalize w.forCall tape i=W at hW Z ac ⊢;have U:∀(j:Nat) t v,Tryz.f3.params[j]? =some t->i.args[j]? =some v->Value.okWide Tryz.prog W .any w.heap.size t v:=Z;have Y:=hW;obtain⟨p,q,a2,a3,rfl,_,_⟩:=hW;have K:DataW.TrodAll enc Tryz.prog W 0 (λ_=>true) true Tryz.f3.params.toList i.args.toList ds p:=a2;rw [Tryz.params3] at K U;obtain⟨blocks,args,vars⟩:=i;simp only at K U Y ⊢;obtain⟨v0,_,d0,_,p0,_,b4,rfl,rfl,ag,K⟩:=trodAll_cons K;obtain⟨v1,_,d1,_,p1,_,rfl,rfl,rfl,ai,K⟩:=trodAll_cons K;obtain⟨v2,_,d2,_,p2,_,rfl,rfl,rfl,aj,K⟩:=trodAll_cons K;obtain⟨al,_,d3,_,p3,_,rfl,rfl,rfl,am,K⟩:=trodAll_cons K;obtain⟨rfl,rfl,rfl⟩:=trodAll_nil K;obtain rfl:args= #[v0,v1,v2,al]:=by cases args;simp_all
 obtain⟨rfl,rfl⟩:=trodVars_none a3;simp only [List.append_nil] at Y;have a4:∀x∈p0++(p1++(p2++p3)),x.block<W.heap.size:=λx O=>by simpa using Y.lt x O
 obtain⟨b5,b6,ca,cc,x0,rfl,g0,u0⟩:=Zo (U 0 25 v0 rfl rfl) ag;obtain⟨x1,rfl⟩:=ZH (U 1 27 v1 rfl rfl) ai;obtain⟨ce,c2,x2,rfl,g2⟩:=aX (U 2 23 v2 rfl rfl) aj;obtain⟨ci,c3,a5,rfl,a6⟩:=aI (U 3 28 al rfl rfl) am;have a7:GE (FV W).E:=du ac;have a8:=bB (E:=(FV W).E) (H:=λ_=>none) a7 g0 u0 g2 a6 (fu_:=1000000000000) (bU (by decide) Zt x0 x1 x2 a5);obtain⟨M,last,o,w',a9,k1,bb,be,bg⟩:=ZJ a8;refine⟨M,last,o,w',a9,k1,bb,be,bg.mono λv bi=>?_⟩;obtain⟨⟨s,rfl⟩,hb,bo⟩:=Yb bi;refine postWith_blind (postWith_of_post ?_ bo);have st:∀{t:TypeId} {v:Value} {d:DataW H} {p:List MemPlace},Tryz.prog.readableRec t=true->t<Tryz.prog.types.size->DataW.Trod enc Tryz.prog W 0 (λ_=>true) true t v d p->(∀x∈p,x∈p0++(p1++(p2++p3)))->DataW.Trod enc Tryz.prog {w' with os:=W.os} 0 (λb=>decide (b<W.heap.size)) true t v d p:=
  λbv bw h bx=>Below.trod Pal.Tryz.laidOut bv bw h hb λx O=>a4 x (bx x O)
 have b0:=st (by kernel_rfl) (of_decide_eq_true (by kernel_rfl)) ag (λx O=>by simp [O]);have s1:=st (by kernel_rfl) (of_decide_eq_true (by kernel_rfl)) ai (λx O=>by simp [O]);have s2:=st (by kernel_rfl) (of_decide_eq_true (by kernel_rfl)) aj (λx O=>by simp [O]);have b1:=st (by kernel_rfl) (of_decide_eq_true (by kernel_rfl)) am (λx O=>by simp [O]);refine⟨_,_,_,[],p0++(p1++(p2++p3)),[],Y,trodAll_mk1 (shut_bool Tryz.underlying4 true),?_,rfl,hb.frame _,λh=>by cases h⟩;exact⟨_,_,b0,⟨_,_,s1,trodAll_mk2 s2 b1,rfl⟩,rfl⟩
theorem XE:Rows.DebtRightsSaid:=
 OpenClaim.holds_of_wide_leaving_time 3 Tryz.f3 rfl rfl rfl rfl rfl rfl rfl ⟨rfl,rfl,rfl,rfl,rfl⟩ rfl rfl rfl rfl rfl SN Tryz.func3 XD XH XF
  (λos started H enc _ F=>XC os started H enc F)
theorem debtRights_card:Rows.DebtRightsCardSaid:=
 Claim7.XA .later true [] [.handle] true (true,"91beae6494309a64a6a51da0f88e63bcc77a5361f9a0d9f909a8ed02fdb7e933") true
  XE (λ_ h=>by cases h) (by kernel_rfl) (λ_ h=>by cases h) debtRights_row_tie rfl ⟨rfl,rfl⟩ Tryz.Po.2.2.2 rfl
  (λf fn O U=>by
   obtain rfl:f=3:=Option.some.inj (SN.symm.trans O) |>.symm
   obtain rfl:fn=Tryz.f3:=(Option.some.inj (Tryz.func3.symm.trans U)).symm
   exact⟨Tryz.eM,λj t K=>by
    rw [Tryz.params3] at K
    have Y:t=25∨t=27∨t=23∨t=28:=by
     have:=Array.mem_of_getElem? K
     simpa using this
    rcases Y with rfl | rfl | rfl | rfl
    .exact(show Tryz.prog.wantsStandIn 25=false by kernel_rfl)
    .exact(show Tryz.prog.wantsStandIn 27=false by kernel_rfl)
    .exact(show Tryz.prog.wantsStandIn 23=false by kernel_rfl)
    .exact(show Tryz.prog.wantsStandIn 28=false by kernel_rfl)⟩)
  XG
#print axioms debtRights_card
end Go.Proofs.YticmfbehkooleaaGreatDoor
