/- ToothAlike answers true for every list of numbers, on every schedule; without a condition beyond those of the given row and card. Part 8 of 8. -/
import Derived.Test.YtboibffcmhheiaaGreatDoorAlc
import Derived.Test.YtboibffcmhheiaaGreatDoorAle
import Derived.Test.YtboibffcmhheiaaGreatDoorAlg
import Derived.Test.YtboibffcmhheiaaGreatDoorTie
import Derived.Test.YtboibffcmhheiaaGreatDoorCards
import Derived.SevenTiedAt
set_option linter.all false
set_option maxRecDepth 100000
namespace Go.Proofs.YtboibffcmhheiaaGreatDoor
open Go Pal Go.Conc Go.ChangeShapes Go.WideShapes Go.ChangeAt Go.RowKit
theorem Qb:f22 4000000000=some true:=by decide+kernel
theorem OA(os:Os)(started:os.Started)(H:Type)(enc:TypeId×Value→H):
  ReturnsInLeavingWide {} Tryz.checked os 7 .any (fun w args=>(Rows.toothAlikeSpec.pre enc Tryz.prog Tryz.f7 [] false w args∧laidMetH Tryz.prog [("errors.errorType",Rows.laid_errors_errorType)] w)∧sizedMet enc Tryz.prog Tryz.f7 (OpenSpec.ofChange Rows.toothAlikeSpec) false w args)
   (Rows.toothAlikeSpec.post enc Tryz.prog Tryz.f7 false true false false):=by
 refine returnsInLeavingWide_of_good (C:=Tryz.checked) Pal.Tryz.own started
  (ChangeSpec.witness_at (enc:=enc) (C:=Tryz.checked) (os:=os) (X:=fun w _=>laidMetH Tryz.prog [("errors.errorType",Rows.laid_errors_errorType)] w) false (LY os) #[.slice none 0 0] 8 rfl (by kernel_rfl) (by kernel_rfl) (by kernel_rfl) (by kernel_rfl) (by kernel_rfl) (OK os _)) ?_
 intro w tape i _ _ _ ar au _;obtain⟨_,_,_,av,aw,_,_,_,_,an⟩:=ar;have ay:av=Tryz.f7:=Option.some.inj (aw.symm.trans Tryz.func7);subst ay;obtain⟨⟨⟨ds,gs,before,hw,aR⟩,_⟩,aS⟩:=au;have hW:=DataW.Whole.of_heap (w':=w.forCall tape i) (by rfl) hw;generalize w.forCall tape i=W at hW an ⊢;have aj:∀(j:Nat) t v,Tryz.f7.params[j]? =some t→i.args[j]? =some v→Value.okWide Tryz.prog W .any w.heap.size t v:=an;have ak:=hW;obtain⟨p,q,az,aA,rfl,_,_⟩:=hW;have al:DataW.TrodAll enc Tryz.prog W 0 (fun _=>true) true Tryz.f7.params.toList i.args.toList ds p:=az;rw [Tryz.params7] at al aj;obtain⟨blocks,args,vars⟩:=i;simp only at al aj ak ⊢;obtain⟨v0,d0,rfl,rfl,ao⟩:=trodAll_one al;obtain⟨rfl,rfl⟩:=trodVars_none aA;obtain⟨Z,len,cap,rfl⟩:=okWide_slice Tryz.underlying28 (aj 0 28 v0 rfl rfl);have aB:=ao;obtain⟨fuel,aC⟩:=ao;simp only [List.append_nil] at ak;have aD:∀x∈p,x.block<W.heap.size:=fun x O=>by simpa using ak.lt x O
 have aE:∀(aa:World),Below W.heap.size W aa→DataW.Trod enc Tryz.prog aa 0 (fun b=>decide (b<W.heap.size)) true 28 (.slice Z len cap) d0 p:=
  fun aa aF=>Below.trod Pal.Tryz.laidOut (by kernel_rfl) (of_decide_eq_true (by kernel_rfl)) aB aF aD
 have close:∀(U:List Int),U.length=len→Ao rI (Gd W).E Z cap U→(Rows.toothAlikeSpec.fn H ([d0]++ [])).results= [.lit (.bool true)]→(Rows.toothAlikeSpec.fn H ([d0]++ [])).args= [d0]→(Rows.toothAlikeSpec.fn H ([d0]++ [])).vars= []→
   ∃M last o w' K,runNT Tryz.checked.prog (M+1) (solo (G (Frame.enter Tryz.checked.prog 7 #[.slice Z len cap] .normal) []) W) #[]=(.ended o w',K)∧
    runN Tryz.checked.prog M (solo (G (Frame.enter Tryz.checked.prog 7 #[.slice Z len cap] .normal) []) W)= .next last∧step Tryz.checked.prog last= .ended o w'∧
    Conc.Good Tryz.checked.prog (fun v aa=>Rows.toothAlikeSpec.post enc Tryz.checked.prog Tryz.f7 false true false false W #[.slice Z len cap] v aa) last o w' K:=by
  intro U aG aH aI aJ ev;have ap:=RA (E:=(Gd W).E) (H:=fun _=>none) aH (fuel:=4000000000) (SH (by omega) Qb U);rw [aG] at ap;obtain⟨M,last,o,w',K,ab,ae,ag,ah⟩:=Qf ap;refine⟨M,last,o,w',K,ab,ae,ag,ah.mono fun v aK=>?_⟩;obtain⟨⟨s,rfl⟩,aq⟩:=OQ aK;refine⟨_,_,_,[],p,[],ak,?_,?_,by rw [ev];rfl,aq.frame _,fun h=>by cases h⟩
  ·rw [aI];exact trodAll_mk1 (shut_bool Tryz.underlying4 true)
  ·rw [aJ];exact trodAll_mk1 (aE _ aq)
 rcases open_ints Tryz.underlying28 Tryz.underlying3 Pal.Tryz.R1 aC with⟨ai,O⟩ | ⟨a,aT,aU,U,ai,_,aL,hm,aM,O,aN,aV⟩
 ·simp [Value.cells] at ai;obtain⟨rfl,rfl,rfl⟩:=ai;simp only [Prod.mk.injEq] at O;obtain⟨rfl,rfl⟩:=O;obtain⟨M,last,o,w',K,ab,ae,ag,ah⟩:=close [] rfl Ao.nil rfl rfl rfl;exact⟨M,last,o,w',K,ab,ae,ag,ah.mono fun v am=>ChangeSpec.post_blind am⟩
 ·simp [Value.cells] at ai;obtain⟨rfl,rfl,rfl⟩:=ai;simp only [Prod.mk.injEq] at O;obtain⟨rfl,rfl⟩:=O;simp only [if_true] at aM;obtain⟨aO,_⟩:=OW Tryz.underlying28 (aj 0 28 _ rfl rfl);obtain⟨aP,aQ⟩:=P2 aO aL (by omega) aN;obtain⟨M,last,o,w',K,ab,ae,ag,ah⟩:=close (U.take len) aQ aP rfl rfl rfl;exact⟨M,last,o,w',K,ab,ae,ag,ah.mono fun v am=>ChangeSpec.post_blind am⟩
end Go.Proofs.YtboibffcmhheiaaGreatDoor
namespace Go.Proofs.YtboibffcmhheiaaGreatDoor
open Go Pal
theorem OB:Rows.ToothAlikeSaid:=OpenClaim.holds_of_wide_leaving 7 Tryz.f7 rfl rfl rfl rfl rfl rfl rfl ⟨rfl,rfl,rfl,rfl,rfl⟩ rfl rfl rfl rfl rfl Lm Tryz.func7 OC OE OD (fun os started H enc _=>OA os started H enc)
theorem toothAlike_card:Rows.ToothAlikeCardSaid:=
 Claim7.Oz .later true [] [.handle] true (true,"69365d541d10418e9c50f3fa49e39882b4000503ae382df684d84938b40f1694") true
  OB (fun _ h=>by cases h) (by kernel_rfl) (fun _ h=>by cases h) toothAlike_row_tie rfl ⟨rfl,rfl⟩ Tryz.I0.2.2.2 rfl
  (fun f fn K O=>by
   obtain rfl:f=7:=Option.some.inj (Lm.symm.trans K) |>.symm
   obtain rfl:fn=Tryz.f7:=(Option.some.inj (Tryz.func7.symm.trans O)).symm
   exact⟨Tryz.RH,fun j t ht=>by
    rw [Tryz.params7] at ht
    have U:t=28:=by
     rcases j with _ | j
     ·simpa using ht.symm
     ·simp at ht
    subst U
    exact(show Tryz.prog.wantsStandIn 28=false by kernel_rfl)⟩)
  OF
#print axioms toothAlike_card
end Go.Proofs.YtboibffcmhheiaaGreatDoor
