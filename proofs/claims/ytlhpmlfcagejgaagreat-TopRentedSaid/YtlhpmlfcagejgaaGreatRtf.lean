/- TopRented is true for every input: if each string that is put owes the steward a pound for each place: a part (6 of 8) of the proof of its row. -/
import Derived.Test.YtlhpmlfcagejgaaGreatRows
import Derived.ProofKit
import Derived.RowKit
set_option linter.all false
set_option maxRecDepth 100000
namespace Go
theorem Sv{P:Program}{f:FuncId}{fn:Func}{s:ChangeSpec}{c:OpenClaim}
  (K:c.wf (OpenSpec.ofChange s)=true)
  (O:laidOutB P=true)
  (U:mapsRowed P=true)
  (Y:fn.params.all (P.readableRec ·)=true)
  (Z:namedTie P c.named s.vars=true)
  (aa:(c.stops== [])=true)
  (ab:(P.stops== [])=true)
  (ae:(c.knobs== [])=true)
  (ag:(P.stopKnobs== [])=true)
  (ah:(c.inPlace==P.inPlace f)=true)
  (ai:(c.unfollowed==P.unfollowed f)=true)
  (aj:(c.recurses==P.recurses f)=true)
  (ak:(c.named==P.varsNamed f)=true)
  (al:(c.maps==(fn.params.toList++s.plain.varTypes P).any (P.mapsRec ·))=true)
  (am:(c.ifaces==(fn.params.toList++s.plain.varTypes P).any (P.ifacesRec ·))=true)
  (an:(c.mapsOut==P.mapsAmong fn.resultTypes.toList)=true)
  (ao:(c.loops==(fn.params.toList++s.plain.varTypes P).any (P.loopsFrom ·))=true)
  (ap:(c.wideKeys==(fn.params.toList++s.plain.varTypes P++fn.resultTypes.toList).any (P.wideKeysFrom ·))=true)
  (aq:s.vars.all (P.varReadable ·)=true)
  (ar:fn.resultTypes.all (λt=>P.readableRec t&&decide (t<P.types.size))=true)
  (au:(c.ifacesOut==fn.resultTypes.toList.any (P.ifacesRec ·))=true)
  (av:(c.loopsOut==fn.resultTypes.toList.any (P.loopsFrom ·))=true)
  (aw:(c.plainKeys==P.plainKeys)=true)
  (ay:c.shortTexts.isNone=true)
  (az:P.stopsHeard=true)
  (aA:P.mayEnter=true)
  (aB:(c.lifted==P.liftsFinal)=true)
  (aC:(P.make==some c.make)=true)
  (aD:(c.kinds==(if c.domain.isEmpty then [] else fn.params.toList.map λt=>match P.underlying t with | some (.int k)=>some k | _=>none))=true)
  (aE:(c.pinned==c.pinnedBy)=true)
  (aF:(c.veiled==(fn.params.toList++s.plain.varTypes P++fn.resultTypes.toList).any (P.veiledRec ·))=true)
  (aG:c.veiledFits P fn.params.toList (fn.params.toList++s.plain.varTypes P++fn.resultTypes.toList)=true)
  :joinedFacts P f fn s c=true:=by
 unfold joinedFacts;simp only [Bool.and_eq_true];exact⟨⟨⟨⟨⟨⟨⟨⟨⟨⟨⟨⟨⟨⟨⟨⟨⟨⟨⟨⟨⟨⟨⟨⟨⟨⟨⟨⟨⟨⟨⟨K,O⟩,U⟩,Y⟩,Z⟩,aa⟩,ab⟩,ae⟩,ag⟩,ah⟩,ai⟩,aj⟩,ak⟩,al⟩,am⟩,an⟩,ao⟩,ap⟩,aq⟩,ar⟩,au⟩,av⟩,aw⟩,ay⟩,az⟩,aA⟩,aB⟩,aC⟩,aD⟩,aE⟩,aF⟩,aG⟩
end Go
namespace Go.Proofs.YtlhpmlfcagejgaaGreat
open Go
theorem Tryz.OT:(Tryz.pinned.checked.prog.mayEnter=true)/\((Rows.topRentedRow.lifted==Tryz.pinned.checked.prog.liftsFinal)=true)/\((Tryz.pinned.checked.prog.make==some Rows.topRentedRow.make)=true):=⟨by kernel_rfl,by kernel_rfl,by kernel_rfl⟩
theorem Tryz.UY:laidOutB Tryz.pinned.checked.prog=true:=by kernel_rfl
theorem Tryz.W7:mapsRowed Tryz.pinned.checked.prog=true:=by kernel_rfl
theorem Tryz.Xo:(Tryz.pinned.checked.prog.stops== [])=true:=by kernel_rfl
theorem Tryz.Xe:(Tryz.pinned.checked.prog.stopKnobs== [])=true:=by kernel_rfl
theorem Tryz.Yi:(Rows.topRentedRow.plainKeys==Tryz.pinned.checked.prog.plainKeys)=true:=by kernel_rfl
theorem Tryz.XE:Tryz.pinned.checked.prog.stopsHeard=true:=by kernel_rfl
end Go.Proofs.YtlhpmlfcagejgaaGreat
