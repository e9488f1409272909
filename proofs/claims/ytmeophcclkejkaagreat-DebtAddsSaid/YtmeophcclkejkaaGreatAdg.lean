/- DebtAdds, row of debt: for every input the law is true and its arguments read behind the call as before it. Part 7 of 9. -/
import Derived.Test.YtmeophcclkejkaaGreatRows
import Derived.ProofKit
import Derived.RowKit
set_option linter.all false
set_option maxRecDepth 100000
namespace Go
theorem Tu{P:Program}{f:FuncId}{fn:Func}{s:ChangeSpec}{c:OpenClaim}
  (K:c.wf (OpenSpec.ofChange s)=true)
  (O:laidOutB P=true)
  (U:mapsRowed P=true)
  (V:fn.params.all (P.readableRec ·)=true)
  (Y:namedTie P c.named s.vars=true)
  (Z:(c.stops== [])=true)
  (aa:(P.stops== [])=true)
  (ab:(c.knobs== [])=true)
  (ac:(P.stopKnobs== [])=true)
  (ae:(c.inPlace==P.inPlace f)=true)
  (ag:(c.unfollowed==P.unfollowed f)=true)
  (ah:(c.recurses==P.recurses f)=true)
  (ai:(c.named==P.varsNamed f)=true)
  (aj:(c.maps==(fn.params.toList++s.plain.varTypes P).any (P.mapsRec ·))=true)
  (ak:(c.ifaces==(fn.params.toList++s.plain.varTypes P).any (P.ifacesRec ·))=true)
  (al:(c.mapsOut==P.mapsAmong fn.resultTypes.toList)=true)
  (am:(c.loops==(fn.params.toList++s.plain.varTypes P).any (P.loopsFrom ·))=true)
  (an:(c.wideKeys==(fn.params.toList++s.plain.varTypes P++fn.resultTypes.toList).any (P.wideKeysFrom ·))=true)
  (ao:s.vars.all (P.varReadable ·)=true)
  (ap:fn.resultTypes.all (λt=>P.readableRec t&&decide (t<P.types.size))=true)
  (aq:(c.ifacesOut==fn.resultTypes.toList.any (P.ifacesRec ·))=true)
  (ar:(c.loopsOut==fn.resultTypes.toList.any (P.loopsFrom ·))=true)
  (au:(c.plainKeys==P.plainKeys)=true)
  (av:c.shortTexts.isNone=true)
  (aw:P.stopsHeard=true)
  (ay:P.mayEnter=true)
  (az:(c.lifted==P.liftsFinal)=true)
  (aA:(P.make==some c.make)=true)
  (aB:(c.kinds==(if c.domain.isEmpty then [] else fn.params.toList.map λt=>match P.underlying t with | some (.int k)=>some k | _=>none))=true)
  (aC:(c.pinned==c.pinnedBy)=true)
  (aD:(c.veiled==(fn.params.toList++s.plain.varTypes P++fn.resultTypes.toList).any (P.veiledRec ·))=true)
  (aE:c.veiledFits P fn.params.toList (fn.params.toList++s.plain.varTypes P++fn.resultTypes.toList)=true)
  :joinedFacts P f fn s c=true:=by
 unfold joinedFacts;simp only [Bool.and_eq_true];exact⟨⟨⟨⟨⟨⟨⟨⟨⟨⟨⟨⟨⟨⟨⟨⟨⟨⟨⟨⟨⟨⟨⟨⟨⟨⟨⟨⟨⟨⟨⟨K,O⟩,U⟩,V⟩,Y⟩,Z⟩,aa⟩,ab⟩,ac⟩,ae⟩,ag⟩,ah⟩,ai⟩,aj⟩,ak⟩,al⟩,am⟩,an⟩,ao⟩,ap⟩,aq⟩,ar⟩,au⟩,av⟩,aw⟩,ay⟩,az⟩,aA⟩,aB⟩,aC⟩,aD⟩,aE⟩
end Go
namespace Go.Proofs.YtmeophcclkejkaaGreat
open Go
theorem Tryz.OR:(Tryz.pinned.checked.prog.mayEnter=true)/\((Rows.debtFewestsRow.lifted==Tryz.pinned.checked.prog.liftsFinal)=true)/\((Tryz.pinned.checked.prog.make==some Rows.debtFewestsRow.make)=true):=⟨by kernel_rfl,by kernel_rfl,by kernel_rfl⟩
theorem Tryz.VM:laidOutB Tryz.pinned.checked.prog=true:=by kernel_rfl
theorem Tryz.Xk:mapsRowed Tryz.pinned.checked.prog=true:=by kernel_rfl
theorem Tryz.XY:(Tryz.pinned.checked.prog.stops== [])=true:=by kernel_rfl
theorem Tryz.Xb:(Tryz.pinned.checked.prog.stopKnobs== [])=true:=by kernel_rfl
theorem Tryz.Y6:(Rows.debtFewestsRow.plainKeys==Tryz.pinned.checked.prog.plainKeys)=true:=by kernel_rfl
theorem Tryz.Xs:Tryz.pinned.checked.prog.stopsHeard=true:=by kernel_rfl
end Go.Proofs.YtmeophcclkejkaaGreat
