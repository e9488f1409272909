/- ToothAlike answers true for every list of numbers, on every schedule; without a condition beyond those of the given row and card. Part 6 of 8. -/
import Derived.SevenTiedAt
import Derived.Test.YtboibffcmhheiaaGreatDoorRows
import Derived.ProofKit
set_option linter.all false
set_option maxRecDepth 100000
namespace Go
theorem Claim7.Oz(U:Looks){p:Pinned}{s:OpenSpec}{c:OpenClaim}(g:Bool)(Z:List (List PathCond))(kinds:List LaidKind)(W:Bool)(K:Bool×String)(O:Bool)
  (ai:c.holds p s) (aj:∀D∈Z,(c.withDomain D).holds p s) (hw:c.wfByText s=true) (ak:∀D∈Z,(c.withDomain D).wfByText s=true)
  (al:c.laidByTextAt U p kinds W)
  (aa:c.start= .entering) (ab:c.noBlocks=false∧c.again=false) (hm:p.checked.prog.mainIs=some (K.1,K.2.toList)) (am:(!K.1&&K.2.isEmpty&& !O)=false)
  (ae:∀f fn,p.checked.prog.funcNamed c.func=some f→p.checked.prog.funcs[f]? =some fn→O=p.checked.prog.looks []∧∀(j:Nat) t,fn.params[j]? =some t→p.checked.prog.wantsStandIn t=false)
  (an:g=c.goesBy p.checked.prog):
  Claim7.holds p (.plain s) {stood:={row:=c,standIns:= [],harness:=K,looks:=O},kinds:= [],alts:=Z,goes:=g,laidByText:=true,laidKinds:=kinds,laidTests:=W,laidLooks:=U}:=by
 have ag:∀r:OpenClaim,Claim7.isSixth {stood:={row:=r,standIns:= [],harness:=K,looks:=O},kinds:= []}=false:=fun r=>by simpa [Claim7.isSixth] using am
 refine⟨Claim7.tied_new_at U kinds W (Claim7.new_of_sixth ai K O aa ab hm (ag c) ae) hw,fun D ah=>?_,al,(fun h=>by cases h),an⟩;exact Claim7.tied_new_at U kinds W (Claim7.new_of_sixth (aj D ah) K O aa ab hm (ag _) ae) (ak D ah)
end Go
namespace Go
theorem OG{P:Program}{f:FuncId}{fn:Func}{s:ChangeSpec}{c:OpenClaim}
  (K:c.wf (OpenSpec.ofChange s)=true)
  (O:laidOutB P=true)
  (U:mapsRowed P=true)
  (W:fn.params.all (P.readableRec ·)=true)
  (Z:namedTie P c.named s.vars=true)
  (aa:(c.stops== [])=true)
  (ab:(P.stops== [])=true)
  (ae:(c.knobs== [])=true)
  (ag:(P.stopKnobs== [])=true)
  (ah:(c.inPlace==P.inPlace f)=true)
  (ai:(c.unfollowed==P.unfollowed f)=true)
  (aj:(c.recurses==P.recurses f)=true)
  (ak:(c.named==P.varsNamed f)=true)
  (al:(c.maps==(fn.params.toList++s.plain.varTypes P).any (P.mapsRec ·))=true)
  (am:(c.ifaces==(fn.params.toList++s.plain.varTypes P).any (P.ifacesRec ·))=true)
  (an:(c.mapsOut==P.mapsAmong fn.resultTypes.toList)=true)
  (ao:(c.loops==(fn.params.toList++s.plain.varTypes P).any (P.loopsFrom ·))=true)
  (ap:(c.wideKeys==(fn.params.toList++s.plain.varTypes P++fn.resultTypes.toList).any (P.wideKeysFrom ·))=true)
  (aq:s.vars.all (P.varReadable ·)=true)
  (ar:fn.resultTypes.all (fun t=>P.readableRec t&&decide (t<P.types.size))=true)
  (au:(c.ifacesOut==fn.resultTypes.toList.any (P.ifacesRec ·))=true)
  (av:(c.loopsOut==fn.resultTypes.toList.any (P.loopsFrom ·))=true)
  (aw:(c.plainKeys==P.plainKeys)=true)
  (ay:c.shortTexts.isNone=true)
  (az:P.stopsHeard=true)
  (aA:P.mayEnter=true)
  (aB:(c.lifted==P.liftsFinal)=true)
  (aC:(P.make==some c.make)=true)
  (aD:(c.kinds==(if c.domain.isEmpty then [] else fn.params.toList.map fun t=>match P.underlying t with | some (.int k)=>some k | _=>none))=true)
  (aE:(c.pinned==c.pinnedBy)=true)
  (aF:(c.veiled==(fn.params.toList++s.plain.varTypes P++fn.resultTypes.toList).any (P.veiledRec ·))=true)
  (aG:c.veiledFits P fn.params.toList (fn.params.toList++s.plain.varTypes P++fn.resultTypes.toList)=true)
  :joinedFacts P f fn s c=true:=by
 unfold joinedFacts;simp only [Bool.and_eq_true];exact⟨⟨⟨⟨⟨⟨⟨⟨⟨⟨⟨⟨⟨⟨⟨⟨⟨⟨⟨⟨⟨⟨⟨⟨⟨⟨⟨⟨⟨⟨⟨K,O⟩,U⟩,W⟩,Z⟩,aa⟩,ab⟩,ae⟩,ag⟩,ah⟩,ai⟩,aj⟩,ak⟩,al⟩,am⟩,an⟩,ao⟩,ap⟩,aq⟩,ar⟩,au⟩,av⟩,aw⟩,ay⟩,az⟩,aA⟩,aB⟩,aC⟩,aD⟩,aE⟩,aF⟩,aG⟩
end Go
namespace Go.Proofs.YtboibffcmhheiaaGreatDoor
open Go
theorem Tryz.I0:(Tryz.pinned.checked.prog.mayEnter=true)∧((Rows.toothYearsRow.lifted==Tryz.pinned.checked.prog.liftsFinal)=true)∧((Tryz.pinned.checked.prog.make==some Rows.toothYearsRow.make)=true)∧(Tryz.pinned.checked.prog.mainIs=some (true,"69365d541d10418e9c50f3fa49e39882b4000503ae382df684d84938b40f1694".toList)):=⟨by kernel_rfl,by kernel_rfl,by kernel_rfl,by kernel_rfl⟩
theorem Tryz.P3:laidOutB Tryz.pinned.checked.prog=true:=by kernel_rfl
theorem Tryz.Sa:mapsRowed Tryz.pinned.checked.prog=true:=by kernel_rfl
theorem Tryz.R0:(Tryz.pinned.checked.prog.stops== [])=true:=by kernel_rfl
theorem Tryz.RX:(Tryz.pinned.checked.prog.stopKnobs== [])=true:=by kernel_rfl
theorem Tryz.Sv:(Rows.toothYearsRow.plainKeys==Tryz.pinned.checked.prog.plainKeys)=true:=by kernel_rfl
theorem Tryz.Sc:Tryz.pinned.checked.prog.stopsHeard=true:=by kernel_rfl
theorem Tryz.RH:true=Tryz.pinned.checked.prog.looks []:=by kernel_rfl
end Go.Proofs.YtboibffcmhheiaaGreatDoor
