/- ToothNumbered: with other numbers of the mouths all answers are the same Part 6 of 8. -/
import Derived.SevenTiedAt
import Derived.Test.YtboibffcmhheiaaGreatDoorRows
import Derived.ProofKit
set_option linter.all false
set_option maxRecDepth 100000
namespace Go
theorem Claim7.RS(U:Looks){p:Pinned}{s:OpenSpec}{c:OpenClaim}(g:Bool)(W:List (List PathCond))(kinds:List LaidKind)(V:Bool)(K:Bool×String)(O:Bool)
  (ah:c.holds p s) (ai:∀D∈W,(c.withDomain D).holds p s) (hw:c.wfByText s=true) (aj:∀D∈W,(c.withDomain D).wfByText s=true)
  (ak:c.laidByTextAt U p kinds V)
  (Y:c.start= .entering) (Z:c.noBlocks=false∧c.again=false) (hm:p.checked.prog.mainIs=some (K.1,K.2.toList)) (al:(!K.1&&K.2.isEmpty&& !O)=false)
  (aa:∀f fn,p.checked.prog.funcNamed c.func=some f→p.checked.prog.funcs[f]? =some fn→O=p.checked.prog.looks []∧∀(j:Nat) t,fn.params[j]? =some t→p.checked.prog.wantsStandIn t=false)
  (am:g=c.goesBy p.checked.prog):
  Claim7.holds p (.plain s) {stood:={row:=c,standIns:= [],harness:=K,looks:=O},kinds:= [],alts:=W,goes:=g,laidByText:=true,laidKinds:=kinds,laidTests:=V,laidLooks:=U}:=by
 have ab:∀r:OpenClaim,Claim7.isSixth {stood:={row:=r,standIns:= [],harness:=K,looks:=O},kinds:= []}=false:=fun r=>by simpa [Claim7.isSixth] using al
 refine⟨Claim7.tied_new_at U kinds V (Claim7.new_of_sixth ah K O Y Z hm (ab c) aa) hw,fun D ae=>?_,ak,(fun h=>by cases h),am⟩;exact Claim7.tied_new_at U kinds V (Claim7.new_of_sixth (ai D ae) K O Y Z hm (ab _) aa) (aj D ae)
end Go
namespace Go
theorem RZ{P:Program}{f:FuncId}{fn:Func}{s:ChangeSpec}{c:OpenClaim}
  (K:c.wf (OpenSpec.ofChange s)=true)
  (O:laidOutB P=true)
  (U:mapsRowed P=true)
  (V:fn.params.all (P.readableRec ·)=true)
  (W:namedTie P c.named s.vars=true)
  (Y:(c.stops== [])=true)
  (Z:(P.stops== [])=true)
  (aa:(c.knobs== [])=true)
  (ab:(P.stopKnobs== [])=true)
  (ae:(c.inPlace==P.inPlace f)=true)
  (ah:(c.unfollowed==P.unfollowed f)=true)
  (ai:(c.recurses==P.recurses f)=true)
  (aj:(c.named==P.varsNamed f)=true)
  (ak:(c.maps==(fn.params.toList++s.plain.varTypes P).any (P.mapsRec ·))=true)
  (al:(c.ifaces==(fn.params.toList++s.plain.varTypes P).any (P.ifacesRec ·))=true)
  (am:(c.mapsOut==P.mapsAmong fn.resultTypes.toList)=true)
  (an:(c.loops==(fn.params.toList++s.plain.varTypes P).any (P.loopsFrom ·))=true)
  (ao:(c.wideKeys==(fn.params.toList++s.plain.varTypes P++fn.resultTypes.toList).any (P.wideKeysFrom ·))=true)
  (ap:s.vars.all (P.varReadable ·)=true)
  (aq:fn.resultTypes.all (fun t=>P.readableRec t&&decide (t<P.types.size))=true)
  (ar:(c.ifacesOut==fn.resultTypes.toList.any (P.ifacesRec ·))=true)
  (au:(c.loopsOut==fn.resultTypes.toList.any (P.loopsFrom ·))=true)
  (av:(c.plainKeys==P.plainKeys)=true)
  (aw:c.shortTexts.isNone=true)
  (ay:P.stopsHeard=true)
  (az:P.mayEnter=true)
  (aA:(c.lifted==P.liftsFinal)=true)
  (aB:(P.make==some c.make)=true)
  (aC:(c.kinds==(if c.domain.isEmpty then [] else fn.params.toList.map fun t=>match P.underlying t with | some (.int k)=>some k | _=>none))=true)
  (aD:(c.pinned==c.pinnedBy)=true)
  (aE:(c.veiled==(fn.params.toList++s.plain.varTypes P++fn.resultTypes.toList).any (P.veiledRec ·))=true)
  (aF:c.veiledFits P fn.params.toList (fn.params.toList++s.plain.varTypes P++fn.resultTypes.toList)=true)
  :joinedFacts P f fn s c=true:=by
 unfold joinedFacts;simp only [Bool.and_eq_true];exact⟨⟨⟨⟨⟨⟨⟨⟨⟨⟨⟨⟨⟨⟨⟨⟨⟨⟨⟨⟨⟨⟨⟨⟨⟨⟨⟨⟨⟨⟨⟨K,O⟩,U⟩,V⟩,W⟩,Y⟩,Z⟩,aa⟩,ab⟩,ae⟩,ah⟩,ai⟩,aj⟩,ak⟩,al⟩,am⟩,an⟩,ao⟩,ap⟩,aq⟩,ar⟩,au⟩,av⟩,aw⟩,ay⟩,az⟩,aA⟩,aB⟩,aC⟩,aD⟩,aE⟩,aF⟩
end Go
namespace Go.Proofs.YtboibffcmhheiaaGreatDoor
open Go
theorem Tryz.LX:(Tryz.pinned.checked.prog.mayEnter=true)∧((Rows.toothYearsRow.lifted==Tryz.pinned.checked.prog.liftsFinal)=true)∧((Tryz.pinned.checked.prog.make==some Rows.toothYearsRow.make)=true)∧(Tryz.pinned.checked.prog.mainIs=some (true,"69365d541d10418e9c50f3fa49e39882b4000503ae382df684d84938b40f1694".toList)):=⟨by kernel_rfl,by kernel_rfl,by kernel_rfl,by kernel_rfl⟩
theorem Tryz.TM:laidOutB Tryz.pinned.checked.prog=true:=by kernel_rfl
theorem Tryz.VK:mapsRowed Tryz.pinned.checked.prog=true:=by kernel_rfl
theorem Tryz.V4:(Tryz.pinned.checked.prog.stops== [])=true:=by kernel_rfl
theorem Tryz.WB:(Tryz.pinned.checked.prog.stopKnobs== [])=true:=by kernel_rfl
theorem Tryz.Xj:(Rows.toothYearsRow.plainKeys==Tryz.pinned.checked.prog.plainKeys)=true:=by kernel_rfl
theorem Tryz.Wo:Tryz.pinned.checked.prog.stopsHeard=true:=by kernel_rfl
theorem Tryz.Wn:true=Tryz.pinned.checked.prog.looks []:=by kernel_rfl
end Go.Proofs.YtboibffcmhheiaaGreatDoor
