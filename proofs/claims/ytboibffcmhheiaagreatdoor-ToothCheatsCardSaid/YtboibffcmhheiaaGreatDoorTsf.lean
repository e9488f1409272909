/- ToothCheats Part 6 of 8. -/
import Derived.SevenTiedAt
import Derived.Test.YtboibffcmhheiaaGreatDoorRows
import Derived.ProofKit
set_option linter.all false
set_option maxRecDepth 100000
namespace Go
theorem Claim7.O0(O:Looks){p:Pinned}{s:OpenSpec}{c:OpenClaim}(g:Bool)(Z:List (List PathCond))(kinds:List LaidKind)(U:Bool)(A:Bool×String)(K:Bool)
  (ah:c.holds p s) (ai:∀D∈Z,(c.withDomain D).holds p s) (hw:c.wfByText s=true) (aj:∀D∈Z,(c.withDomain D).wfByText s=true)
  (ak:c.laidByTextAt O p kinds U)
  (aa:c.start= .entering) (ab:c.noBlocks=false∧c.again=false) (hm:p.checked.prog.mainIs=some (A.1,A.2.toList)) (al:(!A.1&&A.2.isEmpty&& !K)=false)
  (ac:∀f fn,p.checked.prog.funcNamed c.func=some f→p.checked.prog.funcs[f]? =some fn→K=p.checked.prog.looks []∧∀(j:Nat) t,fn.params[j]? =some t→p.checked.prog.wantsStandIn t=false)
  (am:g=c.goesBy p.checked.prog):
  Claim7.holds p (.plain s) {stood:={row:=c,standIns:= [],harness:=A,looks:=K},kinds:= [],alts:=Z,goes:=g,laidByText:=true,laidKinds:=kinds,laidTests:=U,laidLooks:=O}:=by
 have ae:∀r:OpenClaim,Claim7.isSixth {stood:={row:=r,standIns:= [],harness:=A,looks:=K},kinds:= []}=false:=fun r=>by simpa [Claim7.isSixth] using al
 refine⟨Claim7.tied_new_at O kinds U (Claim7.new_of_sixth ah A K aa ab hm (ae c) ac) hw,fun D ag=>?_,ak,(fun h=>by cases h),am⟩;exact Claim7.tied_new_at O kinds U (Claim7.new_of_sixth (ai D ag) A K aa ab hm (ae _) ac) (aj D ag)
end Go
namespace Go
theorem O7{P:Program}{f:FuncId}{fn:Func}{s:ChangeSpec}{c:OpenClaim}
  (A:c.wf (OpenSpec.ofChange s)=true)
  (K:laidOutB P=true)
  (O:mapsRowed P=true)
  (U:fn.params.all (P.readableRec ·)=true)
  (Z:namedTie P c.named s.vars=true)
  (aa:(c.stops== [])=true)
  (ab:(P.stops== [])=true)
  (ac:(c.knobs== [])=true)
  (ae:(P.stopKnobs== [])=true)
  (ag:(c.inPlace==P.inPlace f)=true)
  (ah:(c.unfollowed==P.unfollowed f)=true)
  (ai:(c.recurses==P.recurses f)=true)
  (aj:(c.named==P.varsNamed f)=true)
  (ak:(c.maps==(fn.params.toList++s.plain.varTypes P).any (P.mapsRec ·))=true)
  (al:(c.ifaces==(fn.params.toList++s.plain.varTypes P).any (P.ifacesRec ·))=true)
  (am:(c.mapsOut==P.mapsAmong fn.resultTypes.toList)=true)
  (an:(c.loops==(fn.params.toList++s.plain.varTypes P).any (P.loopsFrom ·))=true)
  (ao:(c.wideKeys==(fn.params.toList++s.plain.varTypes P++fn.resultTypes.toList).any (P.wideKeysFrom ·))=true)
  (ap:s.vars.all (P.varReadable ·)=true)
  (aq:fn.resultTypes.all (fun t=>P.readableRec t&&decide (t<P.types.size))=true)
  (ar:(c.ifacesOut==fn.resultTypes.toList.any (P.ifacesRec ·))=true)
  (au:(c.loopsOut==fn.resultTypes.toList.any (P.loopsFrom ·))=true)
  (av:(c.plainKeys==P.plainKeys)=true)
  (aw:c.shortTexts.isNone=true)
  (ay:P.stopsHeard=true)
  (az:P.mayEnter=true)
  (aA:(c.lifted==P.liftsFinal)=true)
  (aB:(P.make==some c.make)=true)
  (aC:(c.kinds==(if c.domain.isEmpty then [] else fn.params.toList.map fun t=>match P.underlying t with | some (.int k)=>some k | _=>none))=true)
  (aD:(c.pinned==c.pinnedBy)=true)
  (aE:(c.veiled==(fn.params.toList++s.plain.varTypes P++fn.resultTypes.toList).any (P.veiledRec ·))=true)
  (aF:c.veiledFits P fn.params.toList (fn.params.toList++s.plain.varTypes P++fn.resultTypes.toList)=true)
  :joinedFacts P f fn s c=true:=by
 unfold joinedFacts;simp only [Bool.and_eq_true];exact⟨⟨⟨⟨⟨⟨⟨⟨⟨⟨⟨⟨⟨⟨⟨⟨⟨⟨⟨⟨⟨⟨⟨⟨⟨⟨⟨⟨⟨⟨⟨A,K⟩,O⟩,U⟩,Z⟩,aa⟩,ab⟩,ac⟩,ae⟩,ag⟩,ah⟩,ai⟩,aj⟩,ak⟩,al⟩,am⟩,an⟩,ao⟩,ap⟩,aq⟩,ar⟩,au⟩,av⟩,aw⟩,ay⟩,az⟩,aA⟩,aB⟩,aC⟩,aD⟩,aE⟩,aF⟩
end Go
namespace Go.Proofs.YtboibffcmhheiaaGreatDoor
open Go
theorem Tryz.I5:(Tryz.pinned.checked.prog.mayEnter=true)∧((Rows.toothYearsRow.lifted==Tryz.pinned.checked.prog.liftsFinal)=true)∧((Tryz.pinned.checked.prog.make==some Rows.toothYearsRow.make)=true)∧(Tryz.pinned.checked.prog.mainIs=some (true,"69365d541d10418e9c50f3fa49e39882b4000503ae382df684d84938b40f1694".toList)):=⟨by kernel_rfl,by kernel_rfl,by kernel_rfl,by kernel_rfl⟩
theorem Tryz.QG:laidOutB Tryz.pinned.checked.prog=true:=by kernel_rfl
theorem Tryz.S5:mapsRowed Tryz.pinned.checked.prog=true:=by kernel_rfl
theorem Tryz.Tp:(Tryz.pinned.checked.prog.stops== [])=true:=by kernel_rfl
theorem Tryz.SS:(Tryz.pinned.checked.prog.stopKnobs== [])=true:=by kernel_rfl
theorem Tryz.TI:(Rows.toothYearsRow.plainKeys==Tryz.pinned.checked.prog.plainKeys)=true:=by kernel_rfl
theorem Tryz.SY:Tryz.pinned.checked.prog.stopsHeard=true:=by kernel_rfl
theorem Tryz.Su:true=Tryz.pinned.checked.prog.looks []:=by kernel_rfl
end Go.Proofs.YtboibffcmhheiaaGreatDoor
