/- DebtCoins: a part (7 of 9) of the proof of its row. -/
import Derived.SevenTiedAt
import Derived.Test.YtgpbjmfcllmohaaGreatDoorRows
import Derived.ProofKit
import Derived.RowKit
set_option linter.all false
set_option maxRecDepth 100000
namespace Go
theorem Claim7.XD(O:Looks){p:Pinned}{s:OpenSpec}{c:OpenClaim}(g:Bool)(Y:List (List PathCond))(kinds:List LaidKind)(U:Bool)(K:Bool×String)(lk:Bool)
  (am:c.holds p s) (ap:∀D∈Y,(c.withDomain D).holds p s) (hw:c.wfByText s=true) (aq:∀D∈Y,(c.withDomain D).wfByText s=true)
  (av:c.laidByTextAt O p kinds U)
  (Z:c.start= .entering) (ac:c.noBlocks=false/\c.again=false) (hm:p.checked.prog.mainIs=some (K.1,K.2.toList)) (aw:(!K.1&&K.2.isEmpty&& !lk)=false)
  (ag:∀f fn,p.checked.prog.funcNamed c.func=some f->p.checked.prog.funcs[f]? =some fn->lk=p.checked.prog.looks []/\∀(j:Nat) t,fn.params[j]? =some t->p.checked.prog.wantsStandIn t=false)
  (ay:g=c.goesBy p.checked.prog):
  Claim7.holds p (.plain s) {stood:={row:=c,standIns:= [],harness:=K,looks:=lk},kinds:= [],alts:=Y,goes:=g,laidByText:=true,laidKinds:=kinds,laidTests:=U,laidLooks:=O}:=by
 have ai:∀r:OpenClaim,Claim7.isSixth {stood:={row:=r,standIns:= [],harness:=K,looks:=lk},kinds:= []}=false:=λr=>by simpa [Claim7.isSixth] using aw
 refine⟨Claim7.tied_new_at O kinds U (Claim7.new_of_sixth am K lk Z ac hm (ai c) ag) hw,λD al=>?_,av,(λh=>by cases h),ay⟩;exact Claim7.tied_new_at O kinds U (Claim7.new_of_sixth (ap D al) K lk Z ac hm (ai _) ag) (aq D al)
end Go
namespace Go
theorem XM{P:Program}{f:FuncId}{fn:Func}{s:ChangeSpec}{c:OpenClaim}
  (K:c.wf (OpenSpec.ofChange s)=true)
  (O:laidOutB P=true)
  (U:mapsRowed P=true)
  (Y:fn.params.all (P.readableRec ·)=true)
  (Z:namedTie P c.named s.vars=true)
  (ac:(c.stops== [])=true)
  (ag:(P.stops== [])=true)
  (ai:(c.knobs== [])=true)
  (al:(P.stopKnobs== [])=true)
  (am:(c.inPlace==P.inPlace f)=true)
  (ap:(c.unfollowed==P.unfollowed f)=true)
  (aq:(c.recurses==P.recurses f)=true)
  (av:(c.named==P.varsNamed f)=true)
  (aw:(c.maps==(fn.params.toList++s.plain.varTypes P).any (P.mapsRec ·))=true)
  (ay:(c.ifaces==(fn.params.toList++s.plain.varTypes P).any (P.ifacesRec ·))=true)
  (az:(c.mapsOut==P.mapsAmong fn.resultTypes.toList)=true)
  (a0:(c.loops==(fn.params.toList++s.plain.varTypes P).any (P.loopsFrom ·))=true)
  (a1:(c.wideKeys==(fn.params.toList++s.plain.varTypes P++fn.resultTypes.toList).any (P.wideKeysFrom ·))=true)
  (a2:s.vars.all (P.varReadable ·)=true)
  (a3:fn.resultTypes.all (λt=>P.readableRec t&&decide (t<P.types.size))=true)
  (a4:(c.ifacesOut==fn.resultTypes.toList.any (P.ifacesRec ·))=true)
  (a5:(c.loopsOut==fn.resultTypes.toList.any (P.loopsFrom ·))=true)
  (a6:(c.plainKeys==P.plainKeys)=true)
  (a7:c.shortTexts.isNone=true)
  (a8:P.stopsHeard=true)
  (a9:P.mayEnter=true)
  (bb:(c.lifted==P.liftsFinal)=true)
  (be:(P.make==some c.make)=true)
  (bi:(c.kinds==(if c.domain.isEmpty then [] else fn.params.toList.map λt=>match P.underlying t with | some (.int k)=>some k | _=>none))=true)
  (bn:(c.pinned==c.pinnedBy)=true)
  (bo:(c.veiled==(fn.params.toList++s.plain.varTypes P++fn.resultTypes.toList).any (P.veiledRec ·))=true)
  (bv:c.veiledFits P fn.params.toList (fn.params.toList++s.plain.varTypes P++fn.resultTypes.toList)=true)
  :joinedFacts P f fn s c=true:=by
 unfold joinedFacts;simp only [Bool.and_eq_true];exact⟨⟨⟨⟨⟨⟨⟨⟨⟨⟨⟨⟨⟨⟨⟨⟨⟨⟨⟨⟨⟨⟨⟨⟨⟨⟨⟨⟨⟨⟨⟨K,O⟩,U⟩,Y⟩,Z⟩,ac⟩,ag⟩,ai⟩,al⟩,am⟩,ap⟩,aq⟩,av⟩,aw⟩,ay⟩,az⟩,a0⟩,a1⟩,a2⟩,a3⟩,a4⟩,a5⟩,a6⟩,a7⟩,a8⟩,a9⟩,bb⟩,be⟩,bi⟩,bn⟩,bo⟩,bv⟩
end Go
namespace Go.Proofs.YtgpbjmfcllmohaaGreatDoor
open Go
theorem Tryz.P4:(Tryz.pinned.checked.prog.mayEnter=true)/\((Rows.debtCoinsRow.lifted==Tryz.pinned.checked.prog.liftsFinal)=true)/\((Tryz.pinned.checked.prog.make==some Rows.debtCoinsRow.make)=true)/\(Tryz.pinned.checked.prog.mainIs=some (true,"ba5651e37cd0174b37e57aa55edec2c23220873145d42bbabc339eb2b8fea4db".toList)):=⟨by kernel_rfl,by kernel_rfl,by kernel_rfl,by kernel_rfl⟩
theorem Tryz.aj:laidOutB Tryz.pinned.checked.prog=true:=by kernel_rfl
theorem Tryz.fZ:mapsRowed Tryz.pinned.checked.prog=true:=by kernel_rfl
theorem Tryz.gv:(Tryz.pinned.checked.prog.stops== [])=true:=by kernel_rfl
theorem Tryz.gM:(Tryz.pinned.checked.prog.stopKnobs== [])=true:=by kernel_rfl
theorem Tryz.j9:(Rows.debtCoinsRow.plainKeys==Tryz.pinned.checked.prog.plainKeys)=true:=by kernel_rfl
theorem Tryz.gD:Tryz.pinned.checked.prog.stopsHeard=true:=by kernel_rfl
theorem Tryz.gR:true=Tryz.pinned.checked.prog.looks []:=by kernel_rfl
end Go.Proofs.YtgpbjmfcllmohaaGreatDoor
