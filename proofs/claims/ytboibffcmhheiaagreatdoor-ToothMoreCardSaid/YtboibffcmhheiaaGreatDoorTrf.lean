/- ToothMore. Part 6 of 8. -/
import Derived.SevenTiedAt
import Derived.Test.YtboibffcmhheiaaGreatDoorRows
import Derived.ProofKit
set_option linter.all false
set_option maxRecDepth 100000
namespace Go
theorem Claim7.Rc(O:Looks){p:Pinned}{s:OpenSpec}{c:OpenClaim}(g:Bool)(V:List (List PathCond))(kinds:List LaidKind)(U:Bool)(K:Bool×String)(lk:Bool)
  (ae:c.holds p s) (ag:∀D∈V,(c.withDomain D).holds p s) (hw:c.wfByText s=true) (ah:∀D∈V,(c.withDomain D).wfByText s=true)
  (ai:c.laidByTextAt O p kinds U)
  (W:c.start= .entering) (Y:c.noBlocks=false∧c.again=false) (hm:p.checked.prog.mainIs=some (K.1,K.2.toList)) (aj:(!K.1&&K.2.isEmpty&& !lk)=false)
  (Z:∀f fn,p.checked.prog.funcNamed c.func=some f→p.checked.prog.funcs[f]? =some fn→lk=p.checked.prog.looks []∧∀(j:Nat) t,fn.params[j]? =some t→p.checked.prog.wantsStandIn t=false)
  (ak:g=c.goesBy p.checked.prog):
  Claim7.holds p (.plain s) {stood:={row:=c,standIns:= [],harness:=K,looks:=lk},kinds:= [],alts:=V,goes:=g,laidByText:=true,laidKinds:=kinds,laidTests:=U,laidLooks:=O}:=by
 have aa:∀r:OpenClaim,Claim7.isSixth {stood:={row:=r,standIns:= [],harness:=K,looks:=lk},kinds:= []}=false:=fun r=>by simpa [Claim7.isSixth] using aj
 refine⟨Claim7.tied_new_at O kinds U (Claim7.new_of_sixth ae K lk W Y hm (aa c) Z) hw,fun D ab=>?_,ai,(fun h=>by cases h),ak⟩;exact Claim7.tied_new_at O kinds U (Claim7.new_of_sixth (ag D ab) K lk W Y hm (aa _) Z) (ah D ab)
end Go
namespace Go
theorem Rj{P:Program}{f:FuncId}{fn:Func}{s:ChangeSpec}{c:OpenClaim}
  (K:c.wf (OpenSpec.ofChange s)=true)
  (O:laidOutB P=true)
  (U:mapsRowed P=true)
  (V:fn.params.all (P.readableRec ·)=true)
  (W:namedTie P c.named s.vars=true)
  (Y:(c.stops== [])=true)
  (Z:(P.stops== [])=true)
  (aa:(c.knobs== [])=true)
  (ab:(P.stopKnobs== [])=true)
  (ae:(c.inPlace==P.inPlace f)=true)
  (ag:(c.unfollowed==P.unfollowed f)=true)
  (ah:(c.recurses==P.recurses f)=true)
  (ai:(c.named==P.varsNamed f)=true)
  (aj:(c.maps==(fn.params.toList++s.plain.varTypes P).any (P.mapsRec ·))=true)
  (ak:(c.ifaces==(fn.params.toList++s.plain.varTypes P).any (P.ifacesRec ·))=true)
  (al:(c.mapsOut==P.mapsAmong fn.resultTypes.toList)=true)
  (am:(c.loops==(fn.params.toList++s.plain.varTypes P).any (P.loopsFrom ·))=true)
  (an:(c.wideKeys==(fn.params.toList++s.plain.varTypes P++fn.resultTypes.toList).any (P.wideKeysFrom ·))=true)
  (ao:s.vars.all (P.varReadable ·)=true)
  (ap:fn.resultTypes.all (fun t=>P.readableRec t&&decide (t<P.types.size))=true)
  (aq:(c.ifacesOut==fn.resultTypes.toList.any (P.ifacesRec ·))=true)
  (ar:(c.loopsOut==fn.resultTypes.toList.any (P.loopsFrom ·))=true)
  (au:(c.plainKeys==P.plainKeys)=true)
  (av:c.shortTexts.isNone=true)
  (aw:P.stopsHeard=true)
  (ay:P.mayEnter=true)
  (az:(c.lifted==P.liftsFinal)=true)
  (aA:(P.make==some c.make)=true)
  (aB:(c.kinds==(if c.domain.isEmpty then [] else fn.params.toList.map fun t=>match P.underlying t with | some (.int k)=>some k | _=>none))=true)
  (aC:(c.pinned==c.pinnedBy)=true)
  (aD:(c.veiled==(fn.params.toList++s.plain.varTypes P++fn.resultTypes.toList).any (P.veiledRec ·))=true)
  (aE:c.veiledFits P fn.params.toList (fn.params.toList++s.plain.varTypes P++fn.resultTypes.toList)=true)
  :joinedFacts P f fn s c=true:=by
 unfold joinedFacts;simp only [Bool.and_eq_true];exact⟨⟨⟨⟨⟨⟨⟨⟨⟨⟨⟨⟨⟨⟨⟨⟨⟨⟨⟨⟨⟨⟨⟨⟨⟨⟨⟨⟨⟨⟨⟨K,O⟩,U⟩,V⟩,W⟩,Y⟩,Z⟩,aa⟩,ab⟩,ae⟩,ag⟩,ah⟩,ai⟩,aj⟩,ak⟩,al⟩,am⟩,an⟩,ao⟩,ap⟩,aq⟩,ar⟩,au⟩,av⟩,aw⟩,ay⟩,az⟩,aA⟩,aB⟩,aC⟩,aD⟩,aE⟩
end Go
namespace Go.Proofs.YtboibffcmhheiaaGreatDoor
open Go
theorem Tryz.LI:(Tryz.pinned.checked.prog.mayEnter=true)∧((Rows.toothYearsRow.lifted==Tryz.pinned.checked.prog.liftsFinal)=true)∧((Tryz.pinned.checked.prog.make==some Rows.toothYearsRow.make)=true)∧(Tryz.pinned.checked.prog.mainIs=some (true,"69365d541d10418e9c50f3fa49e39882b4000503ae382df684d84938b40f1694".toList)):=⟨by kernel_rfl,by kernel_rfl,by kernel_rfl,by kernel_rfl⟩
theorem Tryz.TI:laidOutB Tryz.pinned.checked.prog=true:=by kernel_rfl
theorem Tryz.VS:mapsRowed Tryz.pinned.checked.prog=true:=by kernel_rfl
theorem Tryz.Vt:(Tryz.pinned.checked.prog.stops== [])=true:=by kernel_rfl
theorem Tryz.U0:(Tryz.pinned.checked.prog.stopKnobs== [])=true:=by kernel_rfl
theorem Tryz.Wg:(Rows.toothYearsRow.plainKeys==Tryz.pinned.checked.prog.plainKeys)=true:=by kernel_rfl
theorem Tryz.Vz:Tryz.pinned.checked.prog.stopsHeard=true:=by kernel_rfl
theorem Tryz.U9:true=Tryz.pinned.checked.prog.looks []:=by kernel_rfl
end Go.Proofs.YtboibffcmhheiaaGreatDoor
