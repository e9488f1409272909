/- ToothSettles. Part 6 of 8. -/
import Derived.SevenTiedAt
import Derived.Test.YtboibffcmhheiaaGreatDoorRows
import Derived.ProofKit
set_option linter.all false
set_option maxRecDepth 100000
namespace Go
theorem Claim7.T9(O:Looks){p:Pinned}{s:OpenSpec}{c:OpenClaim}(g:Bool)(V:List (List PathCond))(kinds:List LaidKind)(U:Bool)(K:Bool×String)(lk:Bool)
  (ap:c.holds p s) (av:∀D∈V,(c.withDomain D).holds p s) (hw:c.wfByText s=true) (a0:∀D∈V,(c.withDomain D).wfByText s=true)
  (a1:c.laidByTextAt O p kinds U)
  (Y:c.start= .entering) (Z:c.noBlocks=false∧c.again=false) (hm:p.checked.prog.mainIs=some (K.1,K.2.toList)) (a2:(!K.1&&K.2.isEmpty&& !lk)=false)
  (ag:∀f fn,p.checked.prog.funcNamed c.func=some f→p.checked.prog.funcs[f]? =some fn→lk=p.checked.prog.looks []∧∀(j:Nat) t,fn.params[j]? =some t→p.checked.prog.wantsStandIn t=false)
  (hg:g=c.goesBy p.checked.prog):
  Claim7.holds p (.plain s) {stood:={row:=c,standIns:= [],harness:=K,looks:=lk},kinds:= [],alts:=V,goes:=g,laidByText:=true,laidKinds:=kinds,laidTests:=U,laidLooks:=O}:=by
 have al:∀r:OpenClaim,Claim7.isSixth {stood:={row:=r,standIns:= [],harness:=K,looks:=lk},kinds:= []}=false:=fun r=>by simpa [Claim7.isSixth] using a2
 refine⟨Claim7.tied_new_at O kinds U (Claim7.new_of_sixth ap K lk Y Z hm (al c) ag) hw,fun D am=>?_,a1,(fun h=>by cases h),hg⟩;exact Claim7.tied_new_at O kinds U (Claim7.new_of_sixth (av D am) K lk Y Z hm (al _) ag) (a0 D am)
end Go
namespace Go
theorem Uf{P:Program}{f:FuncId}{fn:Func}{s:ChangeSpec}{c:OpenClaim}
  (K:c.wf (OpenSpec.ofChange s)=true)
  (O:laidOutB P=true)
  (U:mapsRowed P=true)
  (V:fn.params.all (P.readableRec ·)=true)
  (Y:namedTie P c.named s.vars=true)
  (Z:(c.stops== [])=true)
  (ag:(P.stops== [])=true)
  (al:(c.knobs== [])=true)
  (am:(P.stopKnobs== [])=true)
  (ap:(c.inPlace==P.inPlace f)=true)
  (av:(c.unfollowed==P.unfollowed f)=true)
  (a0:(c.recurses==P.recurses f)=true)
  (a1:(c.named==P.varsNamed f)=true)
  (a2:(c.maps==(fn.params.toList++s.plain.varTypes P).any (P.mapsRec ·))=true)
  (a3:(c.ifaces==(fn.params.toList++s.plain.varTypes P).any (P.ifacesRec ·))=true)
  (a4:(c.mapsOut==P.mapsAmong fn.resultTypes.toList)=true)
  (a5:(c.loops==(fn.params.toList++s.plain.varTypes P).any (P.loopsFrom ·))=true)
  (a6:(c.wideKeys==(fn.params.toList++s.plain.varTypes P++fn.resultTypes.toList).any (P.wideKeysFrom ·))=true)
  (a7:s.vars.all (P.varReadable ·)=true)
  (a8:fn.resultTypes.all (fun t=>P.readableRec t&&decide (t<P.types.size))=true)
  (a9:(c.ifacesOut==fn.resultTypes.toList.any (P.ifacesRec ·))=true)
  (bb:(c.loopsOut==fn.resultTypes.toList.any (P.loopsFrom ·))=true)
  (bd:(c.plainKeys==P.plainKeys)=true)
  (be:c.shortTexts.isNone=true)
  (bi:P.stopsHeard=true)
  (bo:P.mayEnter=true)
  (bv:(c.lifted==P.liftsFinal)=true)
  (bw:(P.make==some c.make)=true)
  (bU:(c.kinds==(if c.domain.isEmpty then [] else fn.params.toList.map fun t=>match P.underlying t with | some (.int k)=>some k | _=>none))=true)
  (bV:(c.pinned==c.pinnedBy)=true)
  (bW:(c.veiled==(fn.params.toList++s.plain.varTypes P++fn.resultTypes.toList).any (P.veiledRec ·))=true)
  (bY:c.veiledFits P fn.params.toList (fn.params.toList++s.plain.varTypes P++fn.resultTypes.toList)=true)
  :joinedFacts P f fn s c=true:=by
 unfold joinedFacts;simp only [Bool.and_eq_true];exact⟨⟨⟨⟨⟨⟨⟨⟨⟨⟨⟨⟨⟨⟨⟨⟨⟨⟨⟨⟨⟨⟨⟨⟨⟨⟨⟨⟨⟨⟨⟨K,O⟩,U⟩,V⟩,Y⟩,Z⟩,ag⟩,al⟩,am⟩,ap⟩,av⟩,a0⟩,a1⟩,a2⟩,a3⟩,a4⟩,a5⟩,a6⟩,a7⟩,a8⟩,a9⟩,bb⟩,bd⟩,be⟩,bi⟩,bo⟩,bv⟩,bw⟩,bU⟩,bV⟩,bW⟩,bY⟩
end Go
namespace Go.Proofs.YtboibffcmhheiaaGreatDoor
open Go
theorem Tryz.NK:(Tryz.pinned.checked.prog.mayEnter=true)∧((Rows.toothYearsRow.lifted==Tryz.pinned.checked.prog.liftsFinal)=true)∧((Tryz.pinned.checked.prog.make==some Rows.toothYearsRow.make)=true)∧(Tryz.pinned.checked.prog.mainIs=some (true,"69365d541d10418e9c50f3fa49e39882b4000503ae382df684d84938b40f1694".toList)):=⟨by kernel_rfl,by kernel_rfl,by kernel_rfl,by kernel_rfl⟩
theorem Tryz.WQ:laidOutB Tryz.pinned.checked.prog=true:=by kernel_rfl
theorem Tryz.aw:mapsRowed Tryz.pinned.checked.prog=true:=by kernel_rfl
theorem Tryz.Zu:(Tryz.pinned.checked.prog.stops== [])=true:=by kernel_rfl
theorem Tryz.au:(Tryz.pinned.checked.prog.stopKnobs== [])=true:=by kernel_rfl
theorem Tryz.bD:(Rows.toothYearsRow.plainKeys==Tryz.pinned.checked.prog.plainKeys)=true:=by kernel_rfl
theorem Tryz.ZL:Tryz.pinned.checked.prog.stopsHeard=true:=by kernel_rfl
theorem Tryz.ZG:true=Tryz.pinned.checked.prog.looks []:=by kernel_rfl
end Go.Proofs.YtboibffcmhheiaaGreatDoor
