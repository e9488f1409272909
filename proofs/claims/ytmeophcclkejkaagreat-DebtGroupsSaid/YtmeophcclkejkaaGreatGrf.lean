/- DebtGroups: a part (6 of 8) of the proof of its row. -/
import Derived.Test.YtmeophcclkejkaaGreatRows
import Derived.ProofKit
import Derived.RowKit
set_option linter.all false
set_option maxRecDepth 100000
namespace Go
theorem TK{P:Program}{f:FuncId}{fn:Func}{s:ChangeSpec}{c:OpenClaim}
  (K:c.wf (OpenSpec.ofChange s)=true)
  (O:laidOutB P=true)
  (U:mapsRowed P=true)
  (Y:fn.params.all (P.readableRec ·)=true)
  (Z:namedTie P c.named s.vars=true)
  (aa:(c.stops== [])=true)
  (ab:(P.stops== [])=true)
  (ac:(c.knobs== [])=true)
  (ae:(P.stopKnobs== [])=true)
  (ag:(c.inPlace==P.inPlace f)=true)
  (ah:(c.unfollowed==P.unfollowed f)=true)
  (ai:(c.recurses==P.recurses f)=true)
  (aj:(c.named==P.varsNamed f)=true)
  (ak:(c.maps==(fn.params.toList++s.plain.varTypes P).any (P.mapsRec ·))=true)
  (al:(c.ifaces==(fn.params.toList++s.plain.varTypes P).any (P.ifacesRec ·))=true)
  (am:(c.mapsOut==P.mapsAmong fn.resultTypes.toList)=true)
  (an:(c.loops==(fn.params.toList++s.plain.varTypes P).any (P.loopsFrom ·))=true)
  (ao:(c.wideKeys==(fn.params.toList++s.plain.varTypes P++fn.resultTypes.toList).any (P.wideKeysFrom ·))=true)
  (ap:s.vars.all (P.varReadable ·)=true)
  (aq:fn.resultTypes.all (λt=>P.readableRec t&&decide (t<P.types.size))=true)
  (ar:(c.ifacesOut==fn.resultTypes.toList.any (P.ifacesRec ·))=true)
  (au:(c.loopsOut==fn.resultTypes.toList.any (P.loopsFrom ·))=true)
  (av:(c.plainKeys==P.plainKeys)=true)
  (aw:c.shortTexts.isNone=true)
  (ay:P.stopsHeard=true)
  (az:P.mayEnter=true)
  (aA:(c.lifted==P.liftsFinal)=true)
  (aB:(P.make==some c.make)=true)
  (aC:(c.kinds==(if c.domain.isEmpty then [] else fn.params.toList.map λt=>match P.underlying t with | some (.int k)=>some k | _=>none))=true)
  (aD:(c.pinned==c.pinnedBy)=true)
  (aE:(c.veiled==(fn.params.toList++s.plain.varTypes P++fn.resultTypes.toList).any (P.veiledRec ·))=true)
  (aF:c.veiledFits P fn.params.toList (fn.params.toList++s.plain.varTypes P++fn.resultTypes.toList)=true)
  :joinedFacts P f fn s c=true:=by
 unfold joinedFacts;simp only [Bool.and_eq_true];exact⟨⟨⟨⟨⟨⟨⟨⟨⟨⟨⟨⟨⟨⟨⟨⟨⟨⟨⟨⟨⟨⟨⟨⟨⟨⟨⟨⟨⟨⟨⟨K,O⟩,U⟩,Y⟩,Z⟩,aa⟩,ab⟩,ac⟩,ae⟩,ag⟩,ah⟩,ai⟩,aj⟩,ak⟩,al⟩,am⟩,an⟩,ao⟩,ap⟩,aq⟩,ar⟩,au⟩,av⟩,aw⟩,ay⟩,az⟩,aA⟩,aB⟩,aC⟩,aD⟩,aE⟩,aF⟩
end Go
namespace Go.Proofs.YtmeophcclkejkaaGreat
open Go
theorem Tryz.O6:(Tryz.pinned.checked.prog.mayEnter=true)/\((Rows.debtFewestsRow.lifted==Tryz.pinned.checked.prog.liftsFinal)=true)/\((Tryz.pinned.checked.prog.make==some Rows.debtFewestsRow.make)=true):=⟨by kernel_rfl,by kernel_rfl,by kernel_rfl⟩
theorem Tryz.V7:laidOutB Tryz.pinned.checked.prog=true:=by kernel_rfl
theorem Tryz.Xt:mapsRowed Tryz.pinned.checked.prog=true:=by kernel_rfl
theorem Tryz.XL:(Tryz.pinned.checked.prog.stops== [])=true:=by kernel_rfl
theorem Tryz.XA:(Tryz.pinned.checked.prog.stopKnobs== [])=true:=by kernel_rfl
theorem Tryz.ZA:(Rows.debtFewestsRow.plainKeys==Tryz.pinned.checked.prog.plainKeys)=true:=by kernel_rfl
theorem Tryz.Xr:Tryz.pinned.checked.prog.stopsHeard=true:=by kernel_rfl
end Go.Proofs.YtmeophcclkejkaaGreat
