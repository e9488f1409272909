/- ToothYears answers true for every list of numbers, on every schedule; without a condition beyond those of the given row and card. Part 8 of 8. -/
import Derived.Test.YtboibffcmhheiaaGreatDoorYec
import Derived.Test.YtboibffcmhheiaaGreatDoorYee
import Derived.Test.YtboibffcmhheiaaGreatDoorYeg
import Derived.Test.YtboibffcmhheiaaGreatDoorTie
import Derived.Test.YtboibffcmhheiaaGreatDoorCards
import Derived.SevenTiedAt
set_option linter.all false
set_option maxRecDepth 100000
namespace Go.Proofs.YtboibffcmhheiaaGreatDoor
open Go Pal Go.Conc Go.ChangeShapes Go.WideShapes Go.ChangeAt Go.RowKit
theorem ON:f22 200=some true:=by decide+kernel
theorem Np(os:Os)(started:os.Started)(H:Type)(enc:TypeId×Value→H):
  ReturnsInLeavingWide {} Tryz.checked os 19 .any (fun w args=>(Rows.toothYearsSpec.pre enc Tryz.prog Tryz.f19 [] false w args∧laidMetH Tryz.prog [("errors.errorType",Rows.laid_errors_errorType)] w)∧sizedMet enc Tryz.prog Tryz.f19 (OpenSpec.ofChange Rows.toothYearsSpec) false w args)
   (Rows.toothYearsSpec.post enc Tryz.prog Tryz.f19 false true false false):=by
 refine returnsInLeavingWide_of_good (C:=Tryz.checked) Pal.Tryz.own started
  (ChangeSpec.witness_at (enc:=enc) (C:=Tryz.checked) (os:=os) (X:=fun w _=>laidMetH Tryz.prog [("errors.errorType",Rows.laid_errors_errorType)] w) false (KD os) #[.slice none 0 0] 8 rfl (by kernel_rfl) (by kernel_rfl) (by kernel_rfl) (by kernel_rfl) (by kernel_rfl) (NC os _)) ?_
 intro w tape i _ _ _ ap aq _;obtain⟨_,_,_,ar,au,_,_,_,_,al⟩:=ap;have av:ar=Tryz.f19:=Option.some.inj (au.symm.trans Tryz.func19);subst av;obtain⟨⟨⟨ds,gs,before,hw,aP⟩,_⟩,aQ⟩:=aq;have hW:=DataW.Whole.of_heap (w':=w.forCall tape i) (by rfl) hw;generalize w.forCall tape i=W at hW al ⊢;have ah:∀(j:Nat) t v,Tryz.f19.params[j]? =some t→i.args[j]? =some v→Value.okWide Tryz.prog W .any w.heap.size t v:=al;have ai:=hW;obtain⟨p,q,aw,ay,rfl,_,_⟩:=hW;have aj:DataW.TrodAll enc Tryz.prog W 0 (fun _=>true) true Tryz.f19.params.toList i.args.toList ds p:=aw;rw [Tryz.params19] at aj ah;obtain⟨blocks,args,vars⟩:=i;simp only at aj ah ai ⊢;obtain⟨v0,d0,rfl,rfl,am⟩:=trodAll_one aj;obtain⟨rfl,rfl⟩:=trodVars_none ay;obtain⟨U,len,cap,rfl⟩:=okWide_slice Tryz.underlying28 (ah 0 28 v0 rfl rfl);have az:=am;obtain⟨fuel,aA⟩:=am;simp only [List.append_nil] at ai;have aB:∀x∈p,x.block<W.heap.size:=fun x K=>by simpa using ai.lt x K
 have aC:∀(Z:World),Below W.heap.size W Z→DataW.Trod enc Tryz.prog Z 0 (fun b=>decide (b<W.heap.size)) true 28 (.slice U len cap) d0 p:=
  fun Z aD=>Below.trod Pal.Tryz.laidOut (by kernel_rfl) (of_decide_eq_true (by kernel_rfl)) az aD aB
 have close:∀(O:List Int),O.length=len→Ar rI (FH W).E U cap O→(Rows.toothYearsSpec.fn H ([d0]++ [])).results= [.lit (.bool true)]→(Rows.toothYearsSpec.fn H ([d0]++ [])).args= [d0]→(Rows.toothYearsSpec.fn H ([d0]++ [])).vars= []→
   ∃M last o w' A,runNT Tryz.checked.prog (M+1) (solo (G (Frame.enter Tryz.checked.prog 19 #[.slice U len cap] .normal) []) W) #[]=(.ended o w',A)∧
    runN Tryz.checked.prog M (solo (G (Frame.enter Tryz.checked.prog 19 #[.slice U len cap] .normal) []) W)= .next last∧step Tryz.checked.prog last= .ended o w'∧
    Conc.Good Tryz.checked.prog (fun v Z=>Rows.toothYearsSpec.post enc Tryz.checked.prog Tryz.f19 false true false false W #[.slice U len cap] v Z) last o w' A:=by
  intro O aE aF aG aH ev;have an:=PZ (E:=(FH W).E) (H:=fun _=>none) aF (fuel:=200) (Q6 (by omega) ON O);rw [aE] at an;obtain⟨M,last,o,w',A,aa,ab,ac,ae⟩:=OT an;refine⟨M,last,o,w',A,aa,ab,ac,ae.mono fun v aI=>?_⟩;obtain⟨⟨s,rfl⟩,ao⟩:=NM aI;refine⟨_,_,_,[],p,[],ai,?_,?_,by rw [ev];rfl,ao.frame _,fun h=>by cases h⟩
  ·rw [aG];exact trodAll_mk1 (shut_bool Tryz.underlying4 true)
  ·rw [aH];exact trodAll_mk1 (aC _ ao)
 rcases open_ints Tryz.underlying28 Tryz.underlying3 Pal.Tryz.Re aA with⟨ag,K⟩ | ⟨a,aR,aS,O,ag,_,aJ,hm,aK,K,aL,aT⟩
 ·simp [Value.cells] at ag;obtain⟨rfl,rfl,rfl⟩:=ag;simp only [Prod.mk.injEq] at K;obtain⟨rfl,rfl⟩:=K;obtain⟨M,last,o,w',A,aa,ab,ac,ae⟩:=close [] rfl Ar.nil rfl rfl rfl;exact⟨M,last,o,w',A,aa,ab,ac,ae.mono fun v ak=>ChangeSpec.post_blind ak⟩
 ·simp [Value.cells] at ag;obtain⟨rfl,rfl,rfl⟩:=ag;simp only [Prod.mk.injEq] at K;obtain⟨rfl,rfl⟩:=K;simp only [if_true] at aK;obtain⟨aM,_⟩:=NK Tryz.underlying28 (ah 0 28 _ rfl rfl);obtain⟨aN,aO⟩:=OP aM aJ (by omega) aL;obtain⟨M,last,o,w',A,aa,ab,ac,ae⟩:=close (O.take len) aO aN rfl rfl rfl;exact⟨M,last,o,w',A,aa,ab,ac,ae.mono fun v ak=>ChangeSpec.post_blind ak⟩
end Go.Proofs.YtboibffcmhheiaaGreatDoor
namespace Go.Proofs.YtboibffcmhheiaaGreatDoor
open Go Pal
theorem Nr:Rows.ToothYearsSaid:=OpenClaim.holds_of_wide_leaving 19 Tryz.f19 rfl rfl rfl rfl rfl rfl rfl ⟨rfl,rfl,rfl,rfl,rfl⟩ rfl rfl rfl rfl rfl J0 Tryz.func19 Nq Nt Ns (fun os started H enc _=>Np os started H enc)
theorem toothYears_card:Rows.ToothYearsCardSaid:=
 Claim7.No .later true [] [.handle] true (true,"69365d541d10418e9c50f3fa49e39882b4000503ae382df684d84938b40f1694") true
  Nr (fun _ h=>by cases h) (by kernel_rfl) (fun _ h=>by cases h) toothYears_row_tie rfl ⟨rfl,rfl⟩ Tryz.H0.2.2.2 rfl
  (fun f fn A K=>by
   obtain rfl:f=19:=Option.some.inj (J0.symm.trans A) |>.symm
   obtain rfl:fn=Tryz.f19:=(Option.some.inj (Tryz.func19.symm.trans K)).symm
   exact⟨Tryz.QL,fun j t ht=>by
    rw [Tryz.params19] at ht
    have O:t=28:=by
     rcases j with _ | j
     ·simpa using ht.symm
     ·simp at ht
    subst O
    exact(show Tryz.prog.wantsStandIn 28=false by kernel_rfl)⟩)
  Nu
#print axioms toothYears_card
end Go.Proofs.YtboibffcmhheiaaGreatDoor
