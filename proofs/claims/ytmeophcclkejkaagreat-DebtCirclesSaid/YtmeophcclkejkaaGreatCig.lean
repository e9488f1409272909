/- DebtCircles: a part (7 of 9) of the proof of its row. -/
import Derived.Test.YtmeophcclkejkaaGreatRows
import Derived.ProofKit
import Derived.RowKit
set_option linter.all false
set_option maxRecDepth 100000
namespace Go
theorem UO{P:Program}{f:FuncId}{fn:Func}{s:ChangeSpec}{c:OpenClaim}
  (K:c.wf (OpenSpec.ofChange s)=true)
  (O:laidOutB P=true)
  (U:mapsRowed P=true)
  (Y:fn.params.all (P.readableRec ·)=true)
  (Z:namedTie P c.named s.vars=true)
  (ac:(c.stops== [])=true)
  (ag:(P.stops== [])=true)
  (al:(c.knobs== [])=true)
  (am:(P.stopKnobs== [])=true)
  (ap:(c.inPlace==P.inPlace f)=true)
  (aq:(c.unfollowed==P.unfollowed f)=true)
  (aw:(c.recurses==P.recurses f)=true)
  (a0:(c.named==P.varsNamed f)=true)
  (a1:(c.maps==(fn.params.toList++s.plain.varTypes P).any (P.mapsRec ·))=true)
  (a2:(c.ifaces==(fn.params.toList++s.plain.varTypes P).any (P.ifacesRec ·))=true)
  (a3:(c.mapsOut==P.mapsAmong fn.resultTypes.toList)=true)
  (a4:(c.loops==(fn.params.toList++s.plain.varTypes P).any (P.loopsFrom ·))=true)
  (a5:(c.wideKeys==(fn.params.toList++s.plain.varTypes P++fn.resultTypes.toList).any (P.wideKeysFrom ·))=true)
  (a6:s.vars.all (P.varReadable ·)=true)
  (a7:fn.resultTypes.all (λt=>P.readableRec t&&decide (t<P.types.size))=true)
  (a8:(c.ifacesOut==fn.resultTypes.toList.any (P.ifacesRec ·))=true)
  (a9:(c.loopsOut==fn.resultTypes.toList.any (P.loopsFrom ·))=true)
  (bb:(c.plainKeys==P.plainKeys)=true)
  (be:c.shortTexts.isNone=true)
  (bi:P.stopsHeard=true)
  (bo:P.mayEnter=true)
  (bv:(c.lifted==P.liftsFinal)=true)
  (bw:(P.make==some c.make)=true)
  (b0:(c.kinds==(if c.domain.isEmpty then [] else fn.params.toList.map λt=>match P.underlying t with | some (.int k)=>some k | _=>none))=true)
  (b1:(c.pinned==c.pinnedBy)=true)
  (b2:(c.veiled==(fn.params.toList++s.plain.varTypes P++fn.resultTypes.toList).any (P.veiledRec ·))=true)
  (b3:c.veiledFits P fn.params.toList (fn.params.toList++s.plain.varTypes P++fn.resultTypes.toList)=true)
  :joinedFacts P f fn s c=true:=by
 unfold joinedFacts;simp only [Bool.and_eq_true];exact⟨⟨⟨⟨⟨⟨⟨⟨⟨⟨⟨⟨⟨⟨⟨⟨⟨⟨⟨⟨⟨⟨⟨⟨⟨⟨⟨⟨⟨⟨⟨K,O⟩,U⟩,Y⟩,Z⟩,ac⟩,ag⟩,al⟩,am⟩,ap⟩,aq⟩,aw⟩,a0⟩,a1⟩,a2⟩,a3⟩,a4⟩,a5⟩,a6⟩,a7⟩,a8⟩,a9⟩,bb⟩,be⟩,bi⟩,bo⟩,bv⟩,bw⟩,b0⟩,b1⟩,b2⟩,b3⟩
end Go
namespace Go.Proofs.YtmeophcclkejkaaGreat
open Go
theorem Tryz.Qa:(Tryz.pinned.checked.prog.mayEnter=true)/\((Rows.debtFewestsRow.lifted==Tryz.pinned.checked.prog.liftsFinal)=true)/\((Tryz.pinned.checked.prog.make==some Rows.debtFewestsRow.make)=true):=⟨by kernel_rfl,by kernel_rfl,by kernel_rfl⟩
theorem Tryz.WI:laidOutB Tryz.pinned.checked.prog=true:=by kernel_rfl
theorem Tryz.ZC:mapsRowed Tryz.pinned.checked.prog=true:=by kernel_rfl
theorem Tryz.Zx:(Tryz.pinned.checked.prog.stops== [])=true:=by kernel_rfl
theorem Tryz.ZX:(Tryz.pinned.checked.prog.stopKnobs== [])=true:=by kernel_rfl
theorem Tryz.bD:(Rows.debtFewestsRow.plainKeys==Tryz.pinned.checked.prog.plainKeys)=true:=by kernel_rfl
theorem Tryz.YR:Tryz.pinned.checked.prog.stopsHeard=true:=by kernel_rfl
end Go.Proofs.YtmeophcclkejkaaGreat
