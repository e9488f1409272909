/- DebtDouble, row of debt: for every input the law is true and its argument reads behind the call as before it. Part 6 of 8. -/
import Derived.Test.YtmeophcclkejkaaGreatRows
import Derived.ProofKit
import Derived.RowKit
set_option linter.all false
set_option maxRecDepth 100000
namespace Go
theorem T6{P:Program}{f:FuncId}{fn:Func}{s:ChangeSpec}{c:OpenClaim}
  (K:c.wf (OpenSpec.ofChange s)=true)
  (O:laidOutB P=true)
  (U:mapsRowed P=true)
  (Y:fn.params.all (P.readableRec ·)=true)
  (Z:namedTie P c.named s.vars=true)
  (ac:(c.stops== [])=true)
  (ag:(P.stops== [])=true)
  (al:(c.knobs== [])=true)
  (am:(P.stopKnobs== [])=true)
  (ap:(c.inPlace==P.inPlace f)=true)
  (aq:(c.unfollowed==P.unfollowed f)=true)
  (av:(c.recurses==P.recurses f)=true)
  (aw:(c.named==P.varsNamed f)=true)
  (ay:(c.maps==(fn.params.toList++s.plain.varTypes P).any (P.mapsRec ·))=true)
  (az:(c.ifaces==(fn.params.toList++s.plain.varTypes P).any (P.ifacesRec ·))=true)
  (aI:(c.mapsOut==P.mapsAmong fn.resultTypes.toList)=true)
  (aJ:(c.loops==(fn.params.toList++s.plain.varTypes P).any (P.loopsFrom ·))=true)
  (aK:(c.wideKeys==(fn.params.toList++s.plain.varTypes P++fn.resultTypes.toList).any (P.wideKeysFrom ·))=true)
  (aL:s.vars.all (P.varReadable ·)=true)
  (aM:fn.resultTypes.all (λt=>P.readableRec t&&decide (t<P.types.size))=true)
  (aN:(c.ifacesOut==fn.resultTypes.toList.any (P.ifacesRec ·))=true)
  (aO:(c.loopsOut==fn.resultTypes.toList.any (P.loopsFrom ·))=true)
  (aP:(c.plainKeys==P.plainKeys)=true)
  (aQ:c.shortTexts.isNone=true)
  (aR:P.stopsHeard=true)
  (aS:P.mayEnter=true)
  (aT:(c.lifted==P.liftsFinal)=true)
  (aU:(P.make==some c.make)=true)
  (aV:(c.kinds==(if c.domain.isEmpty then [] else fn.params.toList.map λt=>match P.underlying t with | some (.int k)=>some k | _=>none))=true)
  (aW:(c.pinned==c.pinnedBy)=true)
  (aX:(c.veiled==(fn.params.toList++s.plain.varTypes P++fn.resultTypes.toList).any (P.veiledRec ·))=true)
  (aY:c.veiledFits P fn.params.toList (fn.params.toList++s.plain.varTypes P++fn.resultTypes.toList)=true)
  :joinedFacts P f fn s c=true:=by
 unfold joinedFacts;simp only [Bool.and_eq_true];exact⟨⟨⟨⟨⟨⟨⟨⟨⟨⟨⟨⟨⟨⟨⟨⟨⟨⟨⟨⟨⟨⟨⟨⟨⟨⟨⟨⟨⟨⟨⟨K,O⟩,U⟩,Y⟩,Z⟩,ac⟩,ag⟩,al⟩,am⟩,ap⟩,aq⟩,av⟩,aw⟩,ay⟩,az⟩,aI⟩,aJ⟩,aK⟩,aL⟩,aM⟩,aN⟩,aO⟩,aP⟩,aQ⟩,aR⟩,aS⟩,aT⟩,aU⟩,aV⟩,aW⟩,aX⟩,aY⟩
end Go
namespace Go.Proofs.YtmeophcclkejkaaGreat
open Go
theorem Tryz.Pl:(Tryz.pinned.checked.prog.mayEnter=true)/\((Rows.debtFewestsRow.lifted==Tryz.pinned.checked.prog.liftsFinal)=true)/\((Tryz.pinned.checked.prog.make==some Rows.debtFewestsRow.make)=true):=⟨by kernel_rfl,by kernel_rfl,by kernel_rfl⟩
theorem Tryz.Wd:laidOutB Tryz.pinned.checked.prog=true:=by kernel_rfl
theorem Tryz.Yr:mapsRowed Tryz.pinned.checked.prog=true:=by kernel_rfl
theorem Tryz.YT:(Tryz.pinned.checked.prog.stops== [])=true:=by kernel_rfl
theorem Tryz.Yd:(Tryz.pinned.checked.prog.stopKnobs== [])=true:=by kernel_rfl
theorem Tryz.Z0:(Rows.debtFewestsRow.plainKeys==Tryz.pinned.checked.prog.plainKeys)=true:=by kernel_rfl
theorem Tryz.Y8:Tryz.pinned.checked.prog.stopsHeard=true:=by kernel_rfl
end Go.Proofs.YtmeophcclkejkaaGreat
