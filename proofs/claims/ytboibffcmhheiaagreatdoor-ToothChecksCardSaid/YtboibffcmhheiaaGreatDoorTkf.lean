/- ToothChecks. Part 6 of 8. -/
import Derived.SevenTiedAt
import Derived.Test.YtboibffcmhheiaaGreatDoorRows
import Derived.ProofKit
set_option linter.all false
set_option maxRecDepth 100000
namespace Go
theorem Claim7.Qc(U:Looks){p:Pinned}{s:OpenSpec}{c:OpenClaim}(g:Bool)(Y:List (List PathCond))(kinds:List LaidKind)(V:Bool)(K:Bool×String)(O:Bool)
  (ac:c.holds p s) (ae:∀D∈Y,(c.withDomain D).holds p s) (hw:c.wfByText s=true) (ag:∀D∈Y,(c.withDomain D).wfByText s=true)
  (ah:c.laidByTextAt U p kinds V)
  (Z:c.start= .entering) (aa:c.noBlocks=false∧c.again=false) (hm:p.checked.prog.mainIs=some (K.1,K.2.toList)) (ai:(!K.1&&K.2.isEmpty&& !O)=false)
  (ab:∀f fn,p.checked.prog.funcNamed c.func=some f→p.checked.prog.funcs[f]? =some fn→O=p.checked.prog.looks []∧∀(j:Nat) t,fn.params[j]? =some t→p.checked.prog.wantsStandIn t=false)
  (hg:g=c.goesBy p.checked.prog):
  Claim7.holds p (.plain s) {stood:={row:=c,standIns:= [],harness:=K,looks:=O},kinds:= [],alts:=Y,goes:=g,laidByText:=true,laidKinds:=kinds,laidTests:=V,laidLooks:=U}:=by
 have h6:∀r:OpenClaim,Claim7.isSixth {stood:={row:=r,standIns:= [],harness:=K,looks:=O},kinds:= []}=false:=fun r=>by simpa [Claim7.isSixth] using ai
 refine⟨Claim7.tied_new_at U kinds V (Claim7.new_of_sixth ac K O Z aa hm (h6 c) ab) hw,fun D hD=>?_,ah,(fun h=>by cases h),hg⟩;exact Claim7.tied_new_at U kinds V (Claim7.new_of_sixth (ae D hD) K O Z aa hm (h6 _) ab) (ag D hD)
end Go
namespace Go
theorem Qj{P:Program}{f:FuncId}{fn:Func}{s:ChangeSpec}{c:OpenClaim}
  (K:c.wf (OpenSpec.ofChange s)=true)
  (O:laidOutB P=true)
  (U:mapsRowed P=true)
  (h3:fn.params.all (P.readableRec ·)=true)
  (V:namedTie P c.named s.vars=true)
  (Y:(c.stops== [])=true)
  (h6:(P.stops== [])=true)
  (Z:(c.knobs== [])=true)
  (aa:(P.stopKnobs== [])=true)
  (h9:(c.inPlace==P.inPlace f)=true)
  (ab:(c.unfollowed==P.unfollowed f)=true)
  (ac:(c.recurses==P.recurses f)=true)
  (h12:(c.named==P.varsNamed f)=true)
  (ae:(c.maps==(fn.params.toList++s.plain.varTypes P).any (P.mapsRec ·))=true)
  (ag:(c.ifaces==(fn.params.toList++s.plain.varTypes P).any (P.ifacesRec ·))=true)
  (ah:(c.mapsOut==P.mapsAmong fn.resultTypes.toList)=true)
  (ai:(c.loops==(fn.params.toList++s.plain.varTypes P).any (P.loopsFrom ·))=true)
  (h17:(c.wideKeys==(fn.params.toList++s.plain.varTypes P++fn.resultTypes.toList).any (P.wideKeysFrom ·))=true)
  (aj:s.vars.all (P.varReadable ·)=true)
  (ak:fn.resultTypes.all (fun t=>P.readableRec t&&decide (t<P.types.size))=true)
  (al:(c.ifacesOut==fn.resultTypes.toList.any (P.ifacesRec ·))=true)
  (am:(c.loopsOut==fn.resultTypes.toList.any (P.loopsFrom ·))=true)
  (an:(c.plainKeys==P.plainKeys)=true)
  (h23:c.shortTexts.isNone=true)
  (ao:P.stopsHeard=true)
  (ap:P.mayEnter=true)
  (aq:(c.lifted==P.liftsFinal)=true)
  (ar:(P.make==some c.make)=true)
  (au:(c.kinds==(if c.domain.isEmpty then [] else fn.params.toList.map fun t=>match P.underlying t with | some (.int k)=>some k | _=>none))=true)
  (av:(c.pinned==c.pinnedBy)=true)
  (aw:(c.veiled==(fn.params.toList++s.plain.varTypes P++fn.resultTypes.toList).any (P.veiledRec ·))=true)
  (ay:c.veiledFits P fn.params.toList (fn.params.toList++s.plain.varTypes P++fn.resultTypes.toList)=true)
  :joinedFacts P f fn s c=true:=by
 unfold joinedFacts;simp only [Bool.and_eq_true];exact⟨⟨⟨⟨⟨⟨⟨⟨⟨⟨⟨⟨⟨⟨⟨⟨⟨⟨⟨⟨⟨⟨⟨⟨⟨⟨⟨⟨⟨⟨⟨K,O⟩,U⟩,h3⟩,V⟩,Y⟩,h6⟩,Z⟩,aa⟩,h9⟩,ab⟩,ac⟩,h12⟩,ae⟩,ag⟩,ah⟩,ai⟩,h17⟩,aj⟩,ak⟩,al⟩,am⟩,an⟩,h23⟩,ao⟩,ap⟩,aq⟩,ar⟩,au⟩,av⟩,aw⟩,ay⟩
end Go
namespace Go.Proofs.YtboibffcmhheiaaGreatDoor
open Go
theorem Tryz.JK:(Tryz.pinned.checked.prog.mayEnter=true)∧((Rows.toothYearsRow.lifted==Tryz.pinned.checked.prog.liftsFinal)=true)∧((Tryz.pinned.checked.prog.make==some Rows.toothYearsRow.make)=true)∧(Tryz.pinned.checked.prog.mainIs=some (true,"69365d541d10418e9c50f3fa49e39882b4000503ae382df684d84938b40f1694".toList)):=⟨by kernel_rfl,by kernel_rfl,by kernel_rfl,by kernel_rfl⟩
theorem Tryz.Sa:laidOutB Tryz.pinned.checked.prog=true:=by kernel_rfl
theorem Tryz.U6:mapsRowed Tryz.pinned.checked.prog=true:=by kernel_rfl
theorem Tryz.Uk:(Tryz.pinned.checked.prog.stops== [])=true:=by kernel_rfl
theorem Tryz.Vr:(Tryz.pinned.checked.prog.stopKnobs== [])=true:=by kernel_rfl
theorem Tryz.VN:(Rows.toothYearsRow.plainKeys==Tryz.pinned.checked.prog.plainKeys)=true:=by kernel_rfl
theorem Tryz.Un:Tryz.pinned.checked.prog.stopsHeard=true:=by kernel_rfl
theorem Tryz.Va:true=Tryz.pinned.checked.prog.looks []:=by kernel_rfl
end Go.Proofs.YtboibffcmhheiaaGreatDoor
