/- DebtPassed, row of debt: for every input the law is true and its argument reads behind the call as before it. Part 6 of 8. -/
import Derived.Test.YtmeophcclkejkaaGreatRows
import Derived.ProofKit
import Derived.RowKit
set_option linter.all false
set_option maxRecDepth 100000
namespace Go
theorem T8{P:Program}{f:FuncId}{fn:Func}{s:ChangeSpec}{c:OpenClaim}
  (K:c.wf (OpenSpec.ofChange s)=true)
  (O:laidOutB P=true)
  (U:mapsRowed P=true)
  (Y:fn.params.all (P.readableRec ·)=true)
  (Z:namedTie P c.named s.vars=true)
  (ac:(c.stops== [])=true)
  (ag:(P.stops== [])=true)
  (al:(c.knobs== [])=true)
  (am:(P.stopKnobs== [])=true)
  (an:(c.inPlace==P.inPlace f)=true)
  (ao:(c.unfollowed==P.unfollowed f)=true)
  (ap:(c.recurses==P.recurses f)=true)
  (aq:(c.named==P.varsNamed f)=true)
  (ar:(c.maps==(fn.params.toList++s.plain.varTypes P).any (P.mapsRec ·))=true)
  (au:(c.ifaces==(fn.params.toList++s.plain.varTypes P).any (P.ifacesRec ·))=true)
  (av:(c.mapsOut==P.mapsAmong fn.resultTypes.toList)=true)
  (aw:(c.loops==(fn.params.toList++s.plain.varTypes P).any (P.loopsFrom ·))=true)
  (ay:(c.wideKeys==(fn.params.toList++s.plain.varTypes P++fn.resultTypes.toList).any (P.wideKeysFrom ·))=true)
  (az:s.vars.all (P.varReadable ·)=true)
  (aA:fn.resultTypes.all (λt=>P.readableRec t&&decide (t<P.types.size))=true)
  (aB:(c.ifacesOut==fn.resultTypes.toList.any (P.ifacesRec ·))=true)
  (aC:(c.loopsOut==fn.resultTypes.toList.any (P.loopsFrom ·))=true)
  (aD:(c.plainKeys==P.plainKeys)=true)
  (aE:c.shortTexts.isNone=true)
  (aF:P.stopsHeard=true)
  (aG:P.mayEnter=true)
  (aH:(c.lifted==P.liftsFinal)=true)
  (aI:(P.make==some c.make)=true)
  (aJ:(c.kinds==(if c.domain.isEmpty then [] else fn.params.toList.map λt=>match P.underlying t with | some (.int k)=>some k | _=>none))=true)
  (aK:(c.pinned==c.pinnedBy)=true)
  (aL:(c.veiled==(fn.params.toList++s.plain.varTypes P++fn.resultTypes.toList).any (P.veiledRec ·))=true)
  (aM:c.veiledFits P fn.params.toList (fn.params.toList++s.plain.varTypes P++fn.resultTypes.toList)=true)
  :joinedFacts P f fn s c=true:=by
 unfold joinedFacts;simp only [Bool.and_eq_true];exact⟨⟨⟨⟨⟨⟨⟨⟨⟨⟨⟨⟨⟨⟨⟨⟨⟨⟨⟨⟨⟨⟨⟨⟨⟨⟨⟨⟨⟨⟨⟨K,O⟩,U⟩,Y⟩,Z⟩,ac⟩,ag⟩,al⟩,am⟩,an⟩,ao⟩,ap⟩,aq⟩,ar⟩,au⟩,av⟩,aw⟩,ay⟩,az⟩,aA⟩,aB⟩,aC⟩,aD⟩,aE⟩,aF⟩,aG⟩,aH⟩,aI⟩,aJ⟩,aK⟩,aL⟩,aM⟩
end Go
namespace Go.Proofs.YtmeophcclkejkaaGreat
open Go
theorem Tryz.Pz:(Tryz.pinned.checked.prog.mayEnter=true)/\((Rows.debtFewestsRow.lifted==Tryz.pinned.checked.prog.liftsFinal)=true)/\((Tryz.pinned.checked.prog.make==some Rows.debtFewestsRow.make)=true):=⟨by kernel_rfl,by kernel_rfl,by kernel_rfl⟩
theorem Tryz.We:laidOutB Tryz.pinned.checked.prog=true:=by kernel_rfl
theorem Tryz.X8:mapsRowed Tryz.pinned.checked.prog=true:=by kernel_rfl
theorem Tryz.Y0:(Tryz.pinned.checked.prog.stops== [])=true:=by kernel_rfl
theorem Tryz.Y4:(Tryz.pinned.checked.prog.stopKnobs== [])=true:=by kernel_rfl
theorem Tryz.ZF:(Rows.debtFewestsRow.plainKeys==Tryz.pinned.checked.prog.plainKeys)=true:=by kernel_rfl
theorem Tryz.Yq:Tryz.pinned.checked.prog.stopsHeard=true:=by kernel_rfl
end Go.Proofs.YtmeophcclkejkaaGreat
