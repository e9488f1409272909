/- DebtPennies is true for every input: if all coins are one pound: a part (7 of 9) of the proof of its row. -/
import Derived.Test.YtkcbafbhngehjaaGreatRows
import Derived.ProofKit
import Derived.RowKit
set_option linter.all false
set_option maxRecDepth 100000
namespace Go
theorem XR{P:Program}{f:FuncId}{fn:Func}{s:ChangeSpec}{c:OpenClaim}
  (K:c.wf (OpenSpec.ofChange s)=true)
  (O:laidOutB P=true)
  (U:mapsRowed P=true)
  (Y:fn.params.all (P.readableRec ·)=true)
  (Z:namedTie P c.named s.vars=true)
  (ac:(c.stops== [])=true)
  (ag:(P.stops== [])=true)
  (ai:(c.knobs== [])=true)
  (al:(P.stopKnobs== [])=true)
  (am:(c.inPlace==P.inPlace f)=true)
  (ap:(c.unfollowed==P.unfollowed f)=true)
  (aq:(c.recurses==P.recurses f)=true)
  (av:(c.named==P.varsNamed f)=true)
  (aw:(c.maps==(fn.params.toList++s.plain.varTypes P).any (P.mapsRec ·))=true)
  (ay:(c.ifaces==(fn.params.toList++s.plain.varTypes P).any (P.ifacesRec ·))=true)
  (az:(c.mapsOut==P.mapsAmong fn.resultTypes.toList)=true)
  (a0:(c.loops==(fn.params.toList++s.plain.varTypes P).any (P.loopsFrom ·))=true)
  (a1:(c.wideKeys==(fn.params.toList++s.plain.varTypes P++fn.resultTypes.toList).any (P.wideKeysFrom ·))=true)
  (a2:s.vars.all (P.varReadable ·)=true)
  (a3:fn.resultTypes.all (λt=>P.readableRec t&&decide (t<P.types.size))=true)
  (a4:(c.ifacesOut==fn.resultTypes.toList.any (P.ifacesRec ·))=true)
  (a5:(c.loopsOut==fn.resultTypes.toList.any (P.loopsFrom ·))=true)
  (a6:(c.plainKeys==P.plainKeys)=true)
  (a7:c.shortTexts.isNone=true)
  (a8:P.stopsHeard=true)
  (a9:P.mayEnter=true)
  (bb:(c.lifted==P.liftsFinal)=true)
  (be:(P.make==some c.make)=true)
  (bi:(c.kinds==(if c.domain.isEmpty then [] else fn.params.toList.map λt=>match P.underlying t with | some (.int k)=>some k | _=>none))=true)
  (bn:(c.pinned==c.pinnedBy)=true)
  (bo:(c.veiled==(fn.params.toList++s.plain.varTypes P++fn.resultTypes.toList).any (P.veiledRec ·))=true)
  (bv:c.veiledFits P fn.params.toList (fn.params.toList++s.plain.varTypes P++fn.resultTypes.toList)=true)
  :joinedFacts P f fn s c=true:=by
 unfold joinedFacts;simp only [Bool.and_eq_true];exact⟨⟨⟨⟨⟨⟨⟨⟨⟨⟨⟨⟨⟨⟨⟨⟨⟨⟨⟨⟨⟨⟨⟨⟨⟨⟨⟨⟨⟨⟨⟨K,O⟩,U⟩,Y⟩,Z⟩,ac⟩,ag⟩,ai⟩,al⟩,am⟩,ap⟩,aq⟩,av⟩,aw⟩,ay⟩,az⟩,a0⟩,a1⟩,a2⟩,a3⟩,a4⟩,a5⟩,a6⟩,a7⟩,a8⟩,a9⟩,bb⟩,be⟩,bi⟩,bn⟩,bo⟩,bv⟩
end Go
namespace Go.Proofs.YtkcbafbhngehjaaGreat
open Go
theorem Tryz.Sf:(Tryz.pinned.checked.prog.mayEnter=true)/\((Rows.debtPenniesRow.lifted==Tryz.pinned.checked.prog.liftsFinal)=true)/\((Tryz.pinned.checked.prog.make==some Rows.debtPenniesRow.make)=true):=⟨by kernel_rfl,by kernel_rfl,by kernel_rfl⟩
theorem Tryz.ZZ:laidOutB Tryz.pinned.checked.prog=true:=by kernel_rfl
theorem Tryz.gJ:mapsRowed Tryz.pinned.checked.prog=true:=by kernel_rfl
theorem Tryz.gQ:(Tryz.pinned.checked.prog.stops== [])=true:=by kernel_rfl
theorem Tryz.eS:(Tryz.pinned.checked.prog.stopKnobs== [])=true:=by kernel_rfl
theorem Tryz.iO:(Rows.debtPenniesRow.plainKeys==Tryz.pinned.checked.prog.plainKeys)=true:=by kernel_rfl
theorem Tryz.fx:Tryz.pinned.checked.prog.stopsHeard=true:=by kernel_rfl
end Go.Proofs.YtkcbafbhngehjaaGreat
