/- DebtFewests is true for every input: the first settlement with the fewest payments: a part (8 of 10) of the proof of its row. -/
import Derived.Test.YteafnffcpbehhaaGreatRows
import Derived.ProofKit
import Derived.RowKit
set_option linter.all false
set_option maxRecDepth 100000
namespace Go
theorem ZM{P:Program}{f:FuncId}{fn:Func}{s:ChangeSpec}{c:OpenClaim}
  (I:c.wf (OpenSpec.ofChange s)=true)
  (K:laidOutB P=true)
  (O:mapsRowed P=true)
  (U:fn.params.all (P.readableRec ·)=true)
  (Y:namedTie P c.named s.vars=true)
  (Z:(c.stops== [])=true)
  (ac:(P.stops== [])=true)
  (ag:(c.knobs== [])=true)
  (ai:(P.stopKnobs== [])=true)
  (aj:(c.inPlace==P.inPlace f)=true)
  (al:(c.unfollowed==P.unfollowed f)=true)
  (am:(c.recurses==P.recurses f)=true)
  (ap:(c.named==P.varsNamed f)=true)
  (aq:(c.maps==(fn.params.toList++s.plain.varTypes P).any (P.mapsRec ·))=true)
  (av:(c.ifaces==(fn.params.toList++s.plain.varTypes P).any (P.ifacesRec ·))=true)
  (aw:(c.mapsOut==P.mapsAmong fn.resultTypes.toList)=true)
  (ay:(c.loops==(fn.params.toList++s.plain.varTypes P).any (P.loopsFrom ·))=true)
  (az:(c.wideKeys==(fn.params.toList++s.plain.varTypes P++fn.resultTypes.toList).any (P.wideKeysFrom ·))=true)
  (a0:s.vars.all (P.varReadable ·)=true)
  (a1:fn.resultTypes.all (λt=>P.readableRec t&&decide (t<P.types.size))=true)
  (a2:(c.ifacesOut==fn.resultTypes.toList.any (P.ifacesRec ·))=true)
  (a3:(c.loopsOut==fn.resultTypes.toList.any (P.loopsFrom ·))=true)
  (a4:(c.plainKeys==P.plainKeys)=true)
  (a5:c.shortTexts.isNone=true)
  (a6:P.stopsHeard=true)
  (a7:P.mayEnter=true)
  (a8:(c.lifted==P.liftsFinal)=true)
  (a9:(P.make==some c.make)=true)
  (bb:(c.kinds==(if c.domain.isEmpty then [] else fn.params.toList.map λt=>match P.underlying t with | some (.int k)=>some k | _=>none))=true)
  (be:(c.pinned==c.pinnedBy)=true)
  (bg:(c.veiled==(fn.params.toList++s.plain.varTypes P++fn.resultTypes.toList).any (P.veiledRec ·))=true)
  (bi:c.veiledFits P fn.params.toList (fn.params.toList++s.plain.varTypes P++fn.resultTypes.toList)=true)
  :joinedFacts P f fn s c=true:=by
 unfold joinedFacts;simp only [Bool.and_eq_true];exact⟨⟨⟨⟨⟨⟨⟨⟨⟨⟨⟨⟨⟨⟨⟨⟨⟨⟨⟨⟨⟨⟨⟨⟨⟨⟨⟨⟨⟨⟨⟨I,K⟩,O⟩,U⟩,Y⟩,Z⟩,ac⟩,ag⟩,ai⟩,aj⟩,al⟩,am⟩,ap⟩,aq⟩,av⟩,aw⟩,ay⟩,az⟩,a0⟩,a1⟩,a2⟩,a3⟩,a4⟩,a5⟩,a6⟩,a7⟩,a8⟩,a9⟩,bb⟩,be⟩,bg⟩,bi⟩
end Go
namespace Go.Proofs.YteafnffcpbehhaaGreat
open Go
theorem Tryz.Ud:(Tryz.pinned.checked.prog.mayEnter=true)/\((Rows.debtFewestsRow.lifted==Tryz.pinned.checked.prog.liftsFinal)=true)/\((Tryz.pinned.checked.prog.make==some Rows.debtFewestsRow.make)=true):=⟨by kernel_rfl,by kernel_rfl,by kernel_rfl⟩
theorem Tryz.de:laidOutB Tryz.pinned.checked.prog=true:=by kernel_rfl
theorem Tryz.jK:mapsRowed Tryz.pinned.checked.prog=true:=by kernel_rfl
theorem Tryz.kW:(Tryz.pinned.checked.prog.stops== [])=true:=by kernel_rfl
theorem Tryz.ja:(Tryz.pinned.checked.prog.stopKnobs== [])=true:=by kernel_rfl
theorem Tryz.lZ:(Rows.debtFewestsRow.plainKeys==Tryz.pinned.checked.prog.plainKeys)=true:=by kernel_rfl
theorem Tryz.lF:Tryz.pinned.checked.prog.stopsHeard=true:=by kernel_rfl
end Go.Proofs.YteafnffcpbehhaaGreat
