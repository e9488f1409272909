/- ToothKnown: the examples of the chapter have the results given there Part 6 of 8. -/
import Derived.SevenTiedAt
import Derived.Test.YtboibffcmhheiaaGreatDoorRows
import Derived.ProofKit
set_option linter.all false
set_option maxRecDepth 100000
namespace Go
theorem Claim7.Qj(U:Looks){p:Pinned}{s:OpenSpec}{c:OpenClaim}(g:Bool)(Y:List (List PathCond))(kinds:List LaidKind)(V:Bool)(K:Bool×String)(O:Bool)
  (ag:c.holds p s) (ah:∀D∈Y,(c.withDomain D).holds p s) (hw:c.wfByText s=true) (ai:∀D∈Y,(c.withDomain D).wfByText s=true)
  (aj:c.laidByTextAt U p kinds V)
  (Z:c.start= .entering) (aa:c.noBlocks=false∧c.again=false) (hm:p.checked.prog.mainIs=some (K.1,K.2.toList)) (ak:(!K.1&&K.2.isEmpty&& !O)=false)
  (ab:∀f fn,p.checked.prog.funcNamed c.func=some f→p.checked.prog.funcs[f]? =some fn→O=p.checked.prog.looks []∧∀(j:Nat) t,fn.params[j]? =some t→p.checked.prog.wantsStandIn t=false)
  (hg:g=c.goesBy p.checked.prog):
  Claim7.holds p (.plain s) {stood:={row:=c,standIns:= [],harness:=K,looks:=O},kinds:= [],alts:=Y,goes:=g,laidByText:=true,laidKinds:=kinds,laidTests:=V,laidLooks:=U}:=by
 have ac:∀r:OpenClaim,Claim7.isSixth {stood:={row:=r,standIns:= [],harness:=K,looks:=O},kinds:= []}=false:=fun r=>by simpa [Claim7.isSixth] using ak
 refine⟨Claim7.tied_new_at U kinds V (Claim7.new_of_sixth ag K O Z aa hm (ac c) ab) hw,fun D ae=>?_,aj,(fun h=>by cases h),hg⟩;exact Claim7.tied_new_at U kinds V (Claim7.new_of_sixth (ah D ae) K O Z aa hm (ac _) ab) (ai D ae)
end Go
namespace Go
theorem Qq{P:Program}{f:FuncId}{fn:Func}{s:ChangeSpec}{c:OpenClaim}
  (K:c.wf (OpenSpec.ofChange s)=true)
  (O:laidOutB P=true)
  (U:mapsRowed P=true)
  (V:fn.params.all (P.readableRec ·)=true)
  (Y:namedTie P c.named s.vars=true)
  (Z:(c.stops== [])=true)
  (aa:(P.stops== [])=true)
  (ab:(c.knobs== [])=true)
  (ac:(P.stopKnobs== [])=true)
  (ae:(c.inPlace==P.inPlace f)=true)
  (ag:(c.unfollowed==P.unfollowed f)=true)
  (ah:(c.recurses==P.recurses f)=true)
  (ai:(c.named==P.varsNamed f)=true)
  (aj:(c.maps==(fn.params.toList++s.plain.varTypes P).any (P.mapsRec ·))=true)
  (ak:(c.ifaces==(fn.params.toList++s.plain.varTypes P).any (P.ifacesRec ·))=true)
  (al:(c.mapsOut==P.mapsAmong fn.resultTypes.toList)=true)
  (am:(c.loops==(fn.params.toList++s.plain.varTypes P).any (P.loopsFrom ·))=true)
  (an:(c.wideKeys==(fn.params.toList++s.plain.varTypes P++fn.resultTypes.toList).any (P.wideKeysFrom ·))=true)
  (ao:s.vars.all (P.varReadable ·)=true)
  (ap:fn.resultTypes.all (fun t=>P.readableRec t&&decide (t<P.types.size))=true)
  (aq:(c.ifacesOut==fn.resultTypes.toList.any (P.ifacesRec ·))=true)
  (ar:(c.loopsOut==fn.resultTypes.toList.any (P.loopsFrom ·))=true)
  (au:(c.plainKeys==P.plainKeys)=true)
  (av:c.shortTexts.isNone=true)
  (aw:P.stopsHeard=true)
  (ay:P.mayEnter=true)
  (az:(c.lifted==P.liftsFinal)=true)
  (aA:(P.make==some c.make)=true)
  (aB:(c.kinds==(if c.domain.isEmpty then [] else fn.params.toList.map fun t=>match P.underlying t with | some (.int k)=>some k | _=>none))=true)
  (aC:(c.pinned==c.pinnedBy)=true)
  (aD:(c.veiled==(fn.params.toList++s.plain.varTypes P++fn.resultTypes.toList).any (P.veiledRec ·))=true)
  (aE:c.veiledFits P fn.params.toList (fn.params.toList++s.plain.varTypes P++fn.resultTypes.toList)=true)
  :joinedFacts P f fn s c=true:=by
 unfold joinedFacts;simp only [Bool.and_eq_true];exact⟨⟨⟨⟨⟨⟨⟨⟨⟨⟨⟨⟨⟨⟨⟨⟨⟨⟨⟨⟨⟨⟨⟨⟨⟨⟨⟨⟨⟨⟨⟨K,O⟩,U⟩,V⟩,Y⟩,Z⟩,aa⟩,ab⟩,ac⟩,ae⟩,ag⟩,ah⟩,ai⟩,aj⟩,ak⟩,al⟩,am⟩,an⟩,ao⟩,ap⟩,aq⟩,ar⟩,au⟩,av⟩,aw⟩,ay⟩,az⟩,aA⟩,aB⟩,aC⟩,aD⟩,aE⟩
end Go
namespace Go.Proofs.YtboibffcmhheiaaGreatDoor
open Go
theorem Tryz.KN:(Tryz.pinned.checked.prog.mayEnter=true)∧((Rows.toothYearsRow.lifted==Tryz.pinned.checked.prog.liftsFinal)=true)∧((Tryz.pinned.checked.prog.make==some Rows.toothYearsRow.make)=true)∧(Tryz.pinned.checked.prog.mainIs=some (true,"69365d541d10418e9c50f3fa49e39882b4000503ae382df684d84938b40f1694".toList)):=⟨by kernel_rfl,by kernel_rfl,by kernel_rfl,by kernel_rfl⟩
theorem Tryz.R6:laidOutB Tryz.pinned.checked.prog=true:=by kernel_rfl
theorem Tryz.T4:mapsRowed Tryz.pinned.checked.prog=true:=by kernel_rfl
theorem Tryz.TK:(Tryz.pinned.checked.prog.stops== [])=true:=by kernel_rfl
theorem Tryz.Ur:(Tryz.pinned.checked.prog.stopKnobs== [])=true:=by kernel_rfl
theorem Tryz.UK:(Rows.toothYearsRow.plainKeys==Tryz.pinned.checked.prog.plainKeys)=true:=by kernel_rfl
theorem Tryz.Un:Tryz.pinned.checked.prog.stopsHeard=true:=by kernel_rfl
theorem Tryz.Um:true=Tryz.pinned.checked.prog.looks []:=by kernel_rfl
end Go.Proofs.YtboibffcmhheiaaGreatDoor
