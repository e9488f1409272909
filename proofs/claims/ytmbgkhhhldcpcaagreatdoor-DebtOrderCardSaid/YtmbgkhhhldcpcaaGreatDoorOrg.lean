/- DebtOrder: a part (7 of 9) of the proof of its row. -/
import Derived.SevenTiedAt
import Derived.Test.YtmbgkhhhldcpcaaGreatDoorRows
import Derived.ProofKit
import Derived.RowKit
set_option linter.all false
set_option maxRecDepth 100000
namespace Go
theorem Claim7.YQ(O:Looks){p:Pinned}{s:OpenSpec}{c:OpenClaim}(g:Bool)(Y:List (List PathCond))(kinds:List LaidKind)(U:Bool)(K:Bool×String)(lk:Bool)
  (ap:c.holds p s) (aq:∀D∈Y,(c.withDomain D).holds p s) (hw:c.wfByText s=true) (av:∀D∈Y,(c.withDomain D).wfByText s=true)
  (aw:c.laidByTextAt O p kinds U)
  (Z:c.start= .entering) (ac:c.noBlocks=false/\c.again=false) (hm:p.checked.prog.mainIs=some (K.1,K.2.toList)) (ay:(!K.1&&K.2.isEmpty&& !lk)=false)
  (ag:∀f fn,p.checked.prog.funcNamed c.func=some f->p.checked.prog.funcs[f]? =some fn->lk=p.checked.prog.looks []/\∀(j:Nat) t,fn.params[j]? =some t->p.checked.prog.wantsStandIn t=false)
  (az:g=c.goesBy p.checked.prog):
  Claim7.holds p (.plain s) {stood:={row:=c,standIns:= [],harness:=K,looks:=lk},kinds:= [],alts:=Y,goes:=g,laidByText:=true,laidKinds:=kinds,laidTests:=U,laidLooks:=O}:=by
 have al:∀r:OpenClaim,Claim7.isSixth {stood:={row:=r,standIns:= [],harness:=K,looks:=lk},kinds:= []}=false:=λr=>by simpa [Claim7.isSixth] using ay
 refine⟨Claim7.tied_new_at O kinds U (Claim7.new_of_sixth ap K lk Z ac hm (al c) ag) hw,λD am=>?_,aw,(λh=>by cases h),az⟩;exact Claim7.tied_new_at O kinds U (Claim7.new_of_sixth (aq D am) K lk Z ac hm (al _) ag) (av D am)
end Go
namespace Go
theorem YW{P:Program}{f:FuncId}{fn:Func}{s:ChangeSpec}{c:OpenClaim}
  (K:c.wf (OpenSpec.ofChange s)=true)
  (O:laidOutB P=true)
  (U:mapsRowed P=true)
  (Y:fn.params.all (P.readableRec ·)=true)
  (Z:namedTie P c.named s.vars=true)
  (ac:(c.stops== [])=true)
  (ag:(P.stops== [])=true)
  (al:(c.knobs== [])=true)
  (am:(P.stopKnobs== [])=true)
  (ap:(c.inPlace==P.inPlace f)=true)
  (aq:(c.unfollowed==P.unfollowed f)=true)
  (av:(c.recurses==P.recurses f)=true)
  (aw:(c.named==P.varsNamed f)=true)
  (ay:(c.maps==(fn.params.toList++s.plain.varTypes P).any (P.mapsRec ·))=true)
  (az:(c.ifaces==(fn.params.toList++s.plain.varTypes P).any (P.ifacesRec ·))=true)
  (a0:(c.mapsOut==P.mapsAmong fn.resultTypes.toList)=true)
  (a1:(c.loops==(fn.params.toList++s.plain.varTypes P).any (P.loopsFrom ·))=true)
  (a2:(c.wideKeys==(fn.params.toList++s.plain.varTypes P++fn.resultTypes.toList).any (P.wideKeysFrom ·))=true)
  (a3:s.vars.all (P.varReadable ·)=true)
  (a4:fn.resultTypes.all (λt=>P.readableRec t&&decide (t<P.types.size))=true)
  (a5:(c.ifacesOut==fn.resultTypes.toList.any (P.ifacesRec ·))=true)
  (a6:(c.loopsOut==fn.resultTypes.toList.any (P.loopsFrom ·))=true)
  (a7:(c.plainKeys==P.plainKeys)=true)
  (a8:c.shortTexts.isNone=true)
  (a9:P.stopsHeard=true)
  (bb:P.mayEnter=true)
  (be:(c.lifted==P.liftsFinal)=true)
  (bi:(P.make==some c.make)=true)
  (bn:(c.kinds==(if c.domain.isEmpty then [] else fn.params.toList.map λt=>match P.underlying t with | some (.int k)=>some k | _=>none))=true)
  (bo:(c.pinned==c.pinnedBy)=true)
  (bv:(c.veiled==(fn.params.toList++s.plain.varTypes P++fn.resultTypes.toList).any (P.veiledRec ·))=true)
  (bw:c.veiledFits P fn.params.toList (fn.params.toList++s.plain.varTypes P++fn.resultTypes.toList)=true)
  :joinedFacts P f fn s c=true:=by
 unfold joinedFacts;simp only [Bool.and_eq_true];exact⟨⟨⟨⟨⟨⟨⟨⟨⟨⟨⟨⟨⟨⟨⟨⟨⟨⟨⟨⟨⟨⟨⟨⟨⟨⟨⟨⟨⟨⟨⟨K,O⟩,U⟩,Y⟩,Z⟩,ac⟩,ag⟩,al⟩,am⟩,ap⟩,aq⟩,av⟩,aw⟩,ay⟩,az⟩,a0⟩,a1⟩,a2⟩,a3⟩,a4⟩,a5⟩,a6⟩,a7⟩,a8⟩,a9⟩,bb⟩,be⟩,bi⟩,bn⟩,bo⟩,bv⟩,bw⟩
end Go
namespace Go.Proofs.YtmbgkhhhldcpcaaGreatDoor
open Go
theorem Tryz.Qs:(Tryz.pinned.checked.prog.mayEnter=true)/\((Rows.debtOrderRow.lifted==Tryz.pinned.checked.prog.liftsFinal)=true)/\((Tryz.pinned.checked.prog.make==some Rows.debtOrderRow.make)=true)/\(Tryz.pinned.checked.prog.mainIs=some (true,"bc62205f502f3c9b1ae26937871a04f7a5a49525bdfc2e70db59cfd366851379".toList)):=⟨by kernel_rfl,by kernel_rfl,by kernel_rfl,by kernel_rfl⟩
theorem Tryz.cT:laidOutB Tryz.pinned.checked.prog=true:=by kernel_rfl
theorem Tryz.iC:mapsRowed Tryz.pinned.checked.prog=true:=by kernel_rfl
theorem Tryz.j8:(Tryz.pinned.checked.prog.stops== [])=true:=by kernel_rfl
theorem Tryz.jK:(Tryz.pinned.checked.prog.stopKnobs== [])=true:=by kernel_rfl
theorem Tryz.lH:(Rows.debtOrderRow.plainKeys==Tryz.pinned.checked.prog.plainKeys)=true:=by kernel_rfl
theorem Tryz.jH:Tryz.pinned.checked.prog.stopsHeard=true:=by kernel_rfl
theorem Tryz.kO:true=Tryz.pinned.checked.prog.looks []:=by kernel_rfl
end Go.Proofs.YtmbgkhhhldcpcaaGreatDoor
