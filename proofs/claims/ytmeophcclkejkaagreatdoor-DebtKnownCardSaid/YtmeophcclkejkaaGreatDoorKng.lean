/- DebtKnown states that the examples of the chapter have the results given there.: a part (7 of 9) of the proof of its row. -/
import Derived.SevenTiedAt
import Derived.Test.YtmeophcclkejkaaGreatDoorRows
import Derived.ProofKit
import Derived.RowKit
set_option linter.all false
set_option maxRecDepth 100000
namespace Go
theorem Claim7.Uy(O:Looks){p:Pinned}{s:OpenSpec}{c:OpenClaim}(g:Bool)(V:List (List PathCond))(kinds:List LaidKind)(U:Bool)(K:Bool×String)(lk:Bool)
  (am:c.holds p s) (ap:∀D∈V,(c.withDomain D).holds p s) (hw:c.wfByText s=true) (aq:∀D∈V,(c.withDomain D).wfByText s=true)
  (aw:c.laidByTextAt O p kinds U)
  (Y:c.start= .entering) (Z:c.noBlocks=false/\c.again=false) (hm:p.checked.prog.mainIs=some (K.1,K.2.toList)) (ay:(!K.1&&K.2.isEmpty&& !lk)=false)
  (ac:∀f fn,p.checked.prog.funcNamed c.func=some f->p.checked.prog.funcs[f]? =some fn->lk=p.checked.prog.looks []/\∀(j:Nat) t,fn.params[j]? =some t->p.checked.prog.wantsStandIn t=false)
  (az:g=c.goesBy p.checked.prog):
  Claim7.holds p (.plain s) {stood:={row:=c,standIns:= [],harness:=K,looks:=lk},kinds:= [],alts:=V,goes:=g,laidByText:=true,laidKinds:=kinds,laidTests:=U,laidLooks:=O}:=by
 have ag:∀r:OpenClaim,Claim7.isSixth {stood:={row:=r,standIns:= [],harness:=K,looks:=lk},kinds:= []}=false:=λr=>by simpa [Claim7.isSixth] using ay
 refine⟨Claim7.tied_new_at O kinds U (Claim7.new_of_sixth am K lk Y Z hm (ag c) ac) hw,λD al=>?_,aw,(λh=>by cases h),az⟩;exact Claim7.tied_new_at O kinds U (Claim7.new_of_sixth (ap D al) K lk Y Z hm (ag _) ac) (aq D al)
end Go
namespace Go
theorem UH{P:Program}{f:FuncId}{fn:Func}{s:ChangeSpec}{c:OpenClaim}
  (K:c.wf (OpenSpec.ofChange s)=true)
  (O:laidOutB P=true)
  (U:mapsRowed P=true)
  (V:fn.params.all (P.readableRec ·)=true)
  (Y:namedTie P c.named s.vars=true)
  (Z:(c.stops== [])=true)
  (ac:(P.stops== [])=true)
  (ag:(c.knobs== [])=true)
  (al:(P.stopKnobs== [])=true)
  (am:(c.inPlace==P.inPlace f)=true)
  (ap:(c.unfollowed==P.unfollowed f)=true)
  (aq:(c.recurses==P.recurses f)=true)
  (aw:(c.named==P.varsNamed f)=true)
  (ay:(c.maps==(fn.params.toList++s.plain.varTypes P).any (P.mapsRec ·))=true)
  (az:(c.ifaces==(fn.params.toList++s.plain.varTypes P).any (P.ifacesRec ·))=true)
  (a0:(c.mapsOut==P.mapsAmong fn.resultTypes.toList)=true)
  (a1:(c.loops==(fn.params.toList++s.plain.varTypes P).any (P.loopsFrom ·))=true)
  (a2:(c.wideKeys==(fn.params.toList++s.plain.varTypes P++fn.resultTypes.toList).any (P.wideKeysFrom ·))=true)
  (a3:s.vars.all (P.varReadable ·)=true)
  (a4:fn.resultTypes.all (λt=>P.readableRec t&&decide (t<P.types.size))=true)
  (a5:(c.ifacesOut==fn.resultTypes.toList.any (P.ifacesRec ·))=true)
  (a6:(c.loopsOut==fn.resultTypes.toList.any (P.loopsFrom ·))=true)
  (a7:(c.plainKeys==P.plainKeys)=true)
  (a8:c.shortTexts.isNone=true)
  (a9:P.stopsHeard=true)
  (bb:P.mayEnter=true)
  (bd:(c.lifted==P.liftsFinal)=true)
  (be:(P.make==some c.make)=true)
  (bi:(c.kinds==(if c.domain.isEmpty then [] else fn.params.toList.map λt=>match P.underlying t with | some (.int k)=>some k | _=>none))=true)
  (bn:(c.pinned==c.pinnedBy)=true)
  (bo:(c.veiled==(fn.params.toList++s.plain.varTypes P++fn.resultTypes.toList).any (P.veiledRec ·))=true)
  (bv:c.veiledFits P fn.params.toList (fn.params.toList++s.plain.varTypes P++fn.resultTypes.toList)=true)
  :joinedFacts P f fn s c=true:=by
 unfold joinedFacts;simp only [Bool.and_eq_true];exact⟨⟨⟨⟨⟨⟨⟨⟨⟨⟨⟨⟨⟨⟨⟨⟨⟨⟨⟨⟨⟨⟨⟨⟨⟨⟨⟨⟨⟨⟨⟨K,O⟩,U⟩,V⟩,Y⟩,Z⟩,ac⟩,ag⟩,al⟩,am⟩,ap⟩,aq⟩,aw⟩,ay⟩,az⟩,a0⟩,a1⟩,a2⟩,a3⟩,a4⟩,a5⟩,a6⟩,a7⟩,a8⟩,a9⟩,bb⟩,bd⟩,be⟩,bi⟩,bn⟩,bo⟩,bv⟩
end Go
namespace Go.Proofs.YtmeophcclkejkaaGreatDoor
open Go
theorem Tryz.Nn:(Tryz.pinned.checked.prog.mayEnter=true)/\((Rows.debtKeptRow.lifted==Tryz.pinned.checked.prog.liftsFinal)=true)/\((Tryz.pinned.checked.prog.make==some Rows.debtKeptRow.make)=true)/\(Tryz.pinned.checked.prog.mainIs=some (true,"a5b52b175413e767e508eb665fbaeadd6fc947b4bc802bccca041f40ac93cca1".toList)):=⟨by kernel_rfl,by kernel_rfl,by kernel_rfl,by kernel_rfl⟩
theorem Tryz.WV:laidOutB Tryz.pinned.checked.prog=true:=by kernel_rfl
theorem Tryz.Zr:mapsRowed Tryz.pinned.checked.prog=true:=by kernel_rfl
theorem Tryz.au:(Tryz.pinned.checked.prog.stops== [])=true:=by kernel_rfl
theorem Tryz.Z8:(Tryz.pinned.checked.prog.stopKnobs== [])=true:=by kernel_rfl
theorem Tryz.aQ:(Rows.debtKeptRow.plainKeys==Tryz.pinned.checked.prog.plainKeys)=true:=by kernel_rfl
theorem Tryz.Zf:Tryz.pinned.checked.prog.stopsHeard=true:=by kernel_rfl
theorem Tryz.Y1:true=Tryz.pinned.checked.prog.looks []:=by kernel_rfl
end Go.Proofs.YtmeophcclkejkaaGreatDoor
