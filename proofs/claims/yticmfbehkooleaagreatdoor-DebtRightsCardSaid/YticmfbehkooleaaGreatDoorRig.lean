/- DebtRights: a part (7 of 9) of the proof of its row. -/
import Derived.SevenTiedAt
import Derived.Test.YticmfbehkooleaaGreatDoorRows
import Derived.ProofKit
import Derived.RowKit
set_option linter.all false
set_option maxRecDepth 100000
namespace Go
theorem Claim7.XA(O:Looks){p:Pinned}{s:OpenSpec}{c:OpenClaim}(g:Bool)(Y:List (List PathCond))(kinds:List LaidKind)(U:Bool)(K:Bool×String)(lk:Bool)
  (al:c.holds p s) (am:∀D∈Y,(c.withDomain D).holds p s) (hw:c.wfByText s=true) (ap:∀D∈Y,(c.withDomain D).wfByText s=true)
  (aq:c.laidByTextAt O p kinds U)
  (Z:c.start= .entering) (ac:c.noBlocks=false/\c.again=false) (hm:p.checked.prog.mainIs=some (K.1,K.2.toList)) (aw:(!K.1&&K.2.isEmpty&& !lk)=false)
  (ag:∀f fn,p.checked.prog.funcNamed c.func=some f->p.checked.prog.funcs[f]? =some fn->lk=p.checked.prog.looks []/\∀(j:Nat) t,fn.params[j]? =some t->p.checked.prog.wantsStandIn t=false)
  (a0:g=c.goesBy p.checked.prog):
  Claim7.holds p (.plain s) {stood:={row:=c,standIns:= [],harness:=K,looks:=lk},kinds:= [],alts:=Y,goes:=g,laidByText:=true,laidKinds:=kinds,laidTests:=U,laidLooks:=O}:=by
 have ai:∀r:OpenClaim,Claim7.isSixth {stood:={row:=r,standIns:= [],harness:=K,looks:=lk},kinds:= []}=false:=λr=>by simpa [Claim7.isSixth] using aw
 refine⟨Claim7.tied_new_at O kinds U (Claim7.new_of_sixth al K lk Z ac hm (ai c) ag) hw,λD aj=>?_,aq,(λh=>by cases h),a0⟩;exact Claim7.tied_new_at O kinds U (Claim7.new_of_sixth (am D aj) K lk Z ac hm (ai _) ag) (ap D aj)
end Go
namespace Go
theorem XJ{P:Program}{f:FuncId}{fn:Func}{s:ChangeSpec}{c:OpenClaim}
  (K:c.wf (OpenSpec.ofChange s)=true)
  (O:laidOutB P=true)
  (U:mapsRowed P=true)
  (Y:fn.params.all (P.readableRec ·)=true)
  (Z:namedTie P c.named s.vars=true)
  (ac:(c.stops== [])=true)
  (ag:(P.stops== [])=true)
  (ai:(c.knobs== [])=true)
  (aj:(P.stopKnobs== [])=true)
  (al:(c.inPlace==P.inPlace f)=true)
  (am:(c.unfollowed==P.unfollowed f)=true)
  (ap:(c.recurses==P.recurses f)=true)
  (aq:(c.named==P.varsNamed f)=true)
  (aw:(c.maps==(fn.params.toList++s.plain.varTypes P).any (P.mapsRec ·))=true)
  (a0:(c.ifaces==(fn.params.toList++s.plain.varTypes P).any (P.ifacesRec ·))=true)
  (a1:(c.mapsOut==P.mapsAmong fn.resultTypes.toList)=true)
  (a2:(c.loops==(fn.params.toList++s.plain.varTypes P).any (P.loopsFrom ·))=true)
  (a3:(c.wideKeys==(fn.params.toList++s.plain.varTypes P++fn.resultTypes.toList).any (P.wideKeysFrom ·))=true)
  (a4:s.vars.all (P.varReadable ·)=true)
  (a5:fn.resultTypes.all (λt=>P.readableRec t&&decide (t<P.types.size))=true)
  (a6:(c.ifacesOut==fn.resultTypes.toList.any (P.ifacesRec ·))=true)
  (a7:(c.loopsOut==fn.resultTypes.toList.any (P.loopsFrom ·))=true)
  (a8:(c.plainKeys==P.plainKeys)=true)
  (a9:c.shortTexts.isNone=true)
  (bb:P.stopsHeard=true)
  (be:P.mayEnter=true)
  (bg:(c.lifted==P.liftsFinal)=true)
  (bi:(P.make==some c.make)=true)
  (bo:(c.kinds==(if c.domain.isEmpty then [] else fn.params.toList.map λt=>match P.underlying t with | some (.int k)=>some k | _=>none))=true)
  (bv:(c.pinned==c.pinnedBy)=true)
  (bw:(c.veiled==(fn.params.toList++s.plain.varTypes P++fn.resultTypes.toList).any (P.veiledRec ·))=true)
  (bx:c.veiledFits P fn.params.toList (fn.params.toList++s.plain.varTypes P++fn.resultTypes.toList)=true)
  :joinedFacts P f fn s c=true:=by
 unfold joinedFacts;simp only [Bool.and_eq_true];exact⟨⟨⟨⟨⟨⟨⟨⟨⟨⟨⟨⟨⟨⟨⟨⟨⟨⟨⟨⟨⟨⟨⟨⟨⟨⟨⟨⟨⟨⟨⟨K,O⟩,U⟩,Y⟩,Z⟩,ac⟩,ag⟩,ai⟩,aj⟩,al⟩,am⟩,ap⟩,aq⟩,aw⟩,a0⟩,a1⟩,a2⟩,a3⟩,a4⟩,a5⟩,a6⟩,a7⟩,a8⟩,a9⟩,bb⟩,be⟩,bg⟩,bi⟩,bo⟩,bv⟩,bw⟩,bx⟩
end Go
namespace Go.Proofs.YticmfbehkooleaaGreatDoor
open Go
theorem Tryz.Po:(Tryz.pinned.checked.prog.mayEnter=true)/\((Rows.debtRightsRow.lifted==Tryz.pinned.checked.prog.liftsFinal)=true)/\((Tryz.pinned.checked.prog.make==some Rows.debtRightsRow.make)=true)/\(Tryz.pinned.checked.prog.mainIs=some (true,"91beae6494309a64a6a51da0f88e63bcc77a5361f9a0d9f909a8ed02fdb7e933".toList)):=⟨by kernel_rfl,by kernel_rfl,by kernel_rfl,by kernel_rfl⟩
theorem Tryz.bI:laidOutB Tryz.pinned.checked.prog=true:=by kernel_rfl
theorem Tryz.ep:mapsRowed Tryz.pinned.checked.prog=true:=by kernel_rfl
theorem Tryz.dY:(Tryz.pinned.checked.prog.stops== [])=true:=by kernel_rfl
theorem Tryz.fP:(Tryz.pinned.checked.prog.stopKnobs== [])=true:=by kernel_rfl
theorem Tryz.ik:(Rows.debtRightsRow.plainKeys==Tryz.pinned.checked.prog.plainKeys)=true:=by kernel_rfl
theorem Tryz.eF:Tryz.pinned.checked.prog.stopsHeard=true:=by kernel_rfl
theorem Tryz.eM:true=Tryz.pinned.checked.prog.looks []:=by kernel_rfl
end Go.Proofs.YticmfbehkooleaaGreatDoor
