/- DebtNets: a part (7 of 9) of the proof of its row. -/
import Derived.Test.YtmeophcclkejkaaGreatRows
import Derived.ProofKit
import Derived.RowKit
set_option linter.all false
set_option maxRecDepth 100000
namespace Go
theorem Uh{P:Program}{f:FuncId}{fn:Func}{s:ChangeSpec}{c:OpenClaim}
  (K:c.wf (OpenSpec.ofChange s)=true)
  (O:laidOutB P=true)
  (U:mapsRowed P=true)
  (Y:fn.params.all (P.readableRec ·)=true)
  (Z:namedTie P c.named s.vars=true)
  (ac:(c.stops== [])=true)
  (ag:(P.stops== [])=true)
  (al:(c.knobs== [])=true)
  (am:(P.stopKnobs== [])=true)
  (ap:(c.inPlace==P.inPlace f)=true)
  (aq:(c.unfollowed==P.unfollowed f)=true)
  (aw:(c.recurses==P.recurses f)=true)
  (ay:(c.named==P.varsNamed f)=true)
  (az:(c.maps==(fn.params.toList++s.plain.varTypes P).any (P.mapsRec ·))=true)
  (a0:(c.ifaces==(fn.params.toList++s.plain.varTypes P).any (P.ifacesRec ·))=true)
  (a1:(c.mapsOut==P.mapsAmong fn.resultTypes.toList)=true)
  (a2:(c.loops==(fn.params.toList++s.plain.varTypes P).any (P.loopsFrom ·))=true)
  (a3:(c.wideKeys==(fn.params.toList++s.plain.varTypes P++fn.resultTypes.toList).any (P.wideKeysFrom ·))=true)
  (a4:s.vars.all (P.varReadable ·)=true)
  (a5:fn.resultTypes.all (λt=>P.readableRec t&&decide (t<P.types.size))=true)
  (a6:(c.ifacesOut==fn.resultTypes.toList.any (P.ifacesRec ·))=true)
  (a7:(c.loopsOut==fn.resultTypes.toList.any (P.loopsFrom ·))=true)
  (a8:(c.plainKeys==P.plainKeys)=true)
  (a9:c.shortTexts.isNone=true)
  (bb:P.stopsHeard=true)
  (be:P.mayEnter=true)
  (bi:(c.lifted==P.liftsFinal)=true)
  (bn:(P.make==some c.make)=true)
  (bo:(c.kinds==(if c.domain.isEmpty then [] else fn.params.toList.map λt=>match P.underlying t with | some (.int k)=>some k | _=>none))=true)
  (bq:(c.pinned==c.pinnedBy)=true)
  (br:(c.veiled==(fn.params.toList++s.plain.varTypes P++fn.resultTypes.toList).any (P.veiledRec ·))=true)
  (bu:c.veiledFits P fn.params.toList (fn.params.toList++s.plain.varTypes P++fn.resultTypes.toList)=true)
  :joinedFacts P f fn s c=true:=by
 unfold joinedFacts;simp only [Bool.and_eq_true];exact⟨⟨⟨⟨⟨⟨⟨⟨⟨⟨⟨⟨⟨⟨⟨⟨⟨⟨⟨⟨⟨⟨⟨⟨⟨⟨⟨⟨⟨⟨⟨K,O⟩,U⟩,Y⟩,Z⟩,ac⟩,ag⟩,al⟩,am⟩,ap⟩,aq⟩,aw⟩,ay⟩,az⟩,a0⟩,a1⟩,a2⟩,a3⟩,a4⟩,a5⟩,a6⟩,a7⟩,a8⟩,a9⟩,bb⟩,be⟩,bi⟩,bn⟩,bo⟩,bq⟩,br⟩,bu⟩
end Go
namespace Go.Proofs.YtmeophcclkejkaaGreat
open Go
theorem Tryz.Pf:(Tryz.pinned.checked.prog.mayEnter=true)/\((Rows.debtFewestsRow.lifted==Tryz.pinned.checked.prog.liftsFinal)=true)/\((Tryz.pinned.checked.prog.make==some Rows.debtFewestsRow.make)=true):=⟨by kernel_rfl,by kernel_rfl,by kernel_rfl⟩
theorem Tryz.Wj:laidOutB Tryz.pinned.checked.prog=true:=by kernel_rfl
theorem Tryz.Ym:mapsRowed Tryz.pinned.checked.prog=true:=by kernel_rfl
theorem Tryz.Zs:(Tryz.pinned.checked.prog.stops== [])=true:=by kernel_rfl
theorem Tryz.Zf:(Tryz.pinned.checked.prog.stopKnobs== [])=true:=by kernel_rfl
theorem Tryz.ZV:(Rows.debtFewestsRow.plainKeys==Tryz.pinned.checked.prog.plainKeys)=true:=by kernel_rfl
theorem Tryz.ZB:Tryz.pinned.checked.prog.stopsHeard=true:=by kernel_rfl
end Go.Proofs.YtmeophcclkejkaaGreat
