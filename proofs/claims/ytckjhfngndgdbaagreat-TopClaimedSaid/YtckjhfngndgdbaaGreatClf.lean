/- TopClaimed: the claims of a book as words of vouchers: a part (6 of 8) of the proof of its row. -/
import Derived.Test.YtckjhfngndgdbaaGreatRows
import Derived.ProofKit
import Derived.RowKit
set_option linter.all false
set_option maxRecDepth 100000
namespace Go
theorem Rh{P:Program}{f:FuncId}{fn:Func}{s:ChangeSpec}{c:OpenClaim}
  (h0:c.wf (OpenSpec.ofChange s)=true)
  (h1:laidOutB P=true)
  (K:mapsRowed P=true)
  (O:fn.params.all (P.readableRec ·)=true)
  (U:namedTie P c.named s.vars=true)
  (V:(c.stops== [])=true)
  (Y:(P.stops== [])=true)
  (Z:(c.knobs== [])=true)
  (aa:(P.stopKnobs== [])=true)
  (ab:(c.inPlace==P.inPlace f)=true)
  (ac:(c.unfollowed==P.unfollowed f)=true)
  (ae:(c.recurses==P.recurses f)=true)
  (ag:(c.named==P.varsNamed f)=true)
  (ah:(c.maps==(fn.params.toList++s.plain.varTypes P).any (P.mapsRec ·))=true)
  (ai:(c.ifaces==(fn.params.toList++s.plain.varTypes P).any (P.ifacesRec ·))=true)
  (aj:(c.mapsOut==P.mapsAmong fn.resultTypes.toList)=true)
  (ak:(c.loops==(fn.params.toList++s.plain.varTypes P).any (P.loopsFrom ·))=true)
  (al:(c.wideKeys==(fn.params.toList++s.plain.varTypes P++fn.resultTypes.toList).any (P.wideKeysFrom ·))=true)
  (am:s.vars.all (P.varReadable ·)=true)
  (an:fn.resultTypes.all (λt=>P.readableRec t&&decide (t<P.types.size))=true)
  (ao:(c.ifacesOut==fn.resultTypes.toList.any (P.ifacesRec ·))=true)
  (ap:(c.loopsOut==fn.resultTypes.toList.any (P.loopsFrom ·))=true)
  (aq:(c.plainKeys==P.plainKeys)=true)
  (ar:c.shortTexts.isNone=true)
  (au:P.stopsHeard=true)
  (av:P.mayEnter=true)
  (aw:(c.lifted==P.liftsFinal)=true)
  (ay:(P.make==some c.make)=true)
  (az:(c.kinds==(if c.domain.isEmpty then [] else fn.params.toList.map λt=>match P.underlying t with | some (.int k)=>some k | _=>none))=true)
  (aA:(c.pinned==c.pinnedBy)=true)
  (aB:(c.veiled==(fn.params.toList++s.plain.varTypes P++fn.resultTypes.toList).any (P.veiledRec ·))=true)
  (aC:c.veiledFits P fn.params.toList (fn.params.toList++s.plain.varTypes P++fn.resultTypes.toList)=true)
  :joinedFacts P f fn s c=true:=by
 unfold joinedFacts;simp only [Bool.and_eq_true];exact⟨⟨⟨⟨⟨⟨⟨⟨⟨⟨⟨⟨⟨⟨⟨⟨⟨⟨⟨⟨⟨⟨⟨⟨⟨⟨⟨⟨⟨⟨⟨h0,h1⟩,K⟩,O⟩,U⟩,V⟩,Y⟩,Z⟩,aa⟩,ab⟩,ac⟩,ae⟩,ag⟩,ah⟩,ai⟩,aj⟩,ak⟩,al⟩,am⟩,an⟩,ao⟩,ap⟩,aq⟩,ar⟩,au⟩,av⟩,aw⟩,ay⟩,az⟩,aA⟩,aB⟩,aC⟩
end Go
namespace Go.Proofs.YtckjhfngndgdbaaGreat
open Go
theorem Tryz.N7:(Tryz.pinned.checked.prog.mayEnter=true)/\((Rows.topClaimedRow.lifted==Tryz.pinned.checked.prog.liftsFinal)=true)/\((Tryz.pinned.checked.prog.make==some Rows.topClaimedRow.make)=true):=⟨by kernel_rfl,by kernel_rfl,by kernel_rfl⟩
theorem Tryz.TM:laidOutB Tryz.pinned.checked.prog=true:=by kernel_rfl
theorem Tryz.VX:mapsRowed Tryz.pinned.checked.prog=true:=by kernel_rfl
theorem Tryz.Wm:(Tryz.pinned.checked.prog.stops== [])=true:=by kernel_rfl
theorem Tryz.Wa:(Tryz.pinned.checked.prog.stopKnobs== [])=true:=by kernel_rfl
theorem Tryz.WX:(Rows.topClaimedRow.plainKeys==Tryz.pinned.checked.prog.plainKeys)=true:=by kernel_rfl
theorem Tryz.Wv:Tryz.pinned.checked.prog.stopsHeard=true:=by kernel_rfl
end Go.Proofs.YtckjhfngndgdbaaGreat
