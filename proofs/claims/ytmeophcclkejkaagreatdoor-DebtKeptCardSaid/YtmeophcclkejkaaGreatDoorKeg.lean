/- DebtKept states that all nets together are 0: a part (7 of 9) of the proof of its row. -/
import Derived.SevenTiedAt
import Derived.Test.YtmeophcclkejkaaGreatDoorRows
import Derived.ProofKit
import Derived.RowKit
set_option linter.all false
set_option maxRecDepth 100000
namespace Go
theorem Claim7.Uy(O:Looks){p:Pinned}{s:OpenSpec}{c:OpenClaim}(g:Bool)(Y:List (List PathCond))(kinds:List LaidKind)(U:Bool)(K:Bool×String)(lk:Bool)
  (ap:c.holds p s) (aq:∀D∈Y,(c.withDomain D).holds p s) (hw:c.wfByText s=true) (aw:∀D∈Y,(c.withDomain D).wfByText s=true)
  (a0:c.laidByTextAt O p kinds U)
  (Z:c.start= .entering) (ac:c.noBlocks=false/\c.again=false) (hm:p.checked.prog.mainIs=some (K.1,K.2.toList)) (a1:(!K.1&&K.2.isEmpty&& !lk)=false)
  (ag:∀f fn,p.checked.prog.funcNamed c.func=some f->p.checked.prog.funcs[f]? =some fn->lk=p.checked.prog.looks []/\∀(j:Nat) t,fn.params[j]? =some t->p.checked.prog.wantsStandIn t=false)
  (a2:g=c.goesBy p.checked.prog):
  Claim7.holds p (.plain s) {stood:={row:=c,standIns:= [],harness:=K,looks:=lk},kinds:= [],alts:=Y,goes:=g,laidByText:=true,laidKinds:=kinds,laidTests:=U,laidLooks:=O}:=by
 have al:∀r:OpenClaim,Claim7.isSixth {stood:={row:=r,standIns:= [],harness:=K,looks:=lk},kinds:= []}=false:=λr=>by simpa [Claim7.isSixth] using a1
 refine⟨Claim7.tied_new_at O kinds U (Claim7.new_of_sixth ap K lk Z ac hm (al c) ag) hw,λD am=>?_,a0,(λh=>by cases h),a2⟩;exact Claim7.tied_new_at O kinds U (Claim7.new_of_sixth (aq D am) K lk Z ac hm (al _) ag) (aw D am)
end Go
namespace Go
theorem UE{P:Program}{f:FuncId}{fn:Func}{s:ChangeSpec}{c:OpenClaim}
  (K:c.wf (OpenSpec.ofChange s)=true)
  (O:laidOutB P=true)
  (U:mapsRowed P=true)
  (Y:fn.params.all (P.readableRec ·)=true)
  (Z:namedTie P c.named s.vars=true)
  (ac:(c.stops== [])=true)
  (ag:(P.stops== [])=true)
  (al:(c.knobs== [])=true)
  (am:(P.stopKnobs== [])=true)
  (ap:(c.inPlace==P.inPlace f)=true)
  (aq:(c.unfollowed==P.unfollowed f)=true)
  (aw:(c.recurses==P.recurses f)=true)
  (a0:(c.named==P.varsNamed f)=true)
  (a1:(c.maps==(fn.params.toList++s.plain.varTypes P).any (P.mapsRec ·))=true)
  (a2:(c.ifaces==(fn.params.toList++s.plain.varTypes P).any (P.ifacesRec ·))=true)
  (a3:(c.mapsOut==P.mapsAmong fn.resultTypes.toList)=true)
  (a4:(c.loops==(fn.params.toList++s.plain.varTypes P).any (P.loopsFrom ·))=true)
  (a5:(c.wideKeys==(fn.params.toList++s.plain.varTypes P++fn.resultTypes.toList).any (P.wideKeysFrom ·))=true)
  (a6:s.vars.all (P.varReadable ·)=true)
  (a7:fn.resultTypes.all (λt=>P.readableRec t&&decide (t<P.types.size))=true)
  (a8:(c.ifacesOut==fn.resultTypes.toList.any (P.ifacesRec ·))=true)
  (a9:(c.loopsOut==fn.resultTypes.toList.any (P.loopsFrom ·))=true)
  (bb:(c.plainKeys==P.plainKeys)=true)
  (be:c.shortTexts.isNone=true)
  (bi:P.stopsHeard=true)
  (bo:P.mayEnter=true)
  (bv:(c.lifted==P.liftsFinal)=true)
  (bw:(P.make==some c.make)=true)
  (b0:(c.kinds==(if c.domain.isEmpty then [] else fn.params.toList.map λt=>match P.underlying t with | some (.int k)=>some k | _=>none))=true)
  (b1:(c.pinned==c.pinnedBy)=true)
  (b2:(c.veiled==(fn.params.toList++s.plain.varTypes P++fn.resultTypes.toList).any (P.veiledRec ·))=true)
  (b3:c.veiledFits P fn.params.toList (fn.params.toList++s.plain.varTypes P++fn.resultTypes.toList)=true)
  :joinedFacts P f fn s c=true:=by
 unfold joinedFacts;simp only [Bool.and_eq_true];exact⟨⟨⟨⟨⟨⟨⟨⟨⟨⟨⟨⟨⟨⟨⟨⟨⟨⟨⟨⟨⟨⟨⟨⟨⟨⟨⟨⟨⟨⟨⟨K,O⟩,U⟩,Y⟩,Z⟩,ac⟩,ag⟩,al⟩,am⟩,ap⟩,aq⟩,aw⟩,a0⟩,a1⟩,a2⟩,a3⟩,a4⟩,a5⟩,a6⟩,a7⟩,a8⟩,a9⟩,bb⟩,be⟩,bi⟩,bo⟩,bv⟩,bw⟩,b0⟩,b1⟩,b2⟩,b3⟩
end Go
namespace Go.Proofs.YtmeophcclkejkaaGreatDoor
open Go
theorem Tryz.NF:(Tryz.pinned.checked.prog.mayEnter=true)/\((Rows.debtKeptRow.lifted==Tryz.pinned.checked.prog.liftsFinal)=true)/\((Tryz.pinned.checked.prog.make==some Rows.debtKeptRow.make)=true)/\(Tryz.pinned.checked.prog.mainIs=some (true,"a5b52b175413e767e508eb665fbaeadd6fc947b4bc802bccca041f40ac93cca1".toList)):=⟨by kernel_rfl,by kernel_rfl,by kernel_rfl,by kernel_rfl⟩
theorem Tryz.Xr:laidOutB Tryz.pinned.checked.prog=true:=by kernel_rfl
theorem Tryz.ZK:mapsRowed Tryz.pinned.checked.prog=true:=by kernel_rfl
theorem Tryz.Zv:(Tryz.pinned.checked.prog.stops== [])=true:=by kernel_rfl
theorem Tryz.aP:(Tryz.pinned.checked.prog.stopKnobs== [])=true:=by kernel_rfl
theorem Tryz.bZ:(Rows.debtKeptRow.plainKeys==Tryz.pinned.checked.prog.plainKeys)=true:=by kernel_rfl
theorem Tryz.aB:Tryz.pinned.checked.prog.stopsHeard=true:=by kernel_rfl
theorem Tryz.Zk:true=Tryz.pinned.checked.prog.looks []:=by kernel_rfl
end Go.Proofs.YtmeophcclkejkaaGreatDoor
