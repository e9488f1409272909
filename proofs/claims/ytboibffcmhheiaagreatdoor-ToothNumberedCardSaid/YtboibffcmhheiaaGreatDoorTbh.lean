/- ToothNumbered: with other numbers of the mouths all answers are the same Part 8 of 8. -/
import Derived.Test.YtboibffcmhheiaaGreatDoorTbc
import Derived.Test.YtboibffcmhheiaaGreatDoorTbe
import Derived.Test.YtboibffcmhheiaaGreatDoorTbg
import Derived.Test.YtboibffcmhheiaaGreatDoorTie
import Derived.Test.YtboibffcmhheiaaGreatDoorCards
import Derived.SevenTiedAt
set_option linter.all false
set_option maxRecDepth 100000
namespace Go.Proofs.YtboibffcmhheiaaGreatDoor
open Go Pal Go.Conc Go.ChangeShapes Go.WideShapes Go.ChangeAt Go.RowKit
theorem TE:f22 4000000000=some true:=by decide+kernel
theorem RN(os:Os)(started:os.Started)(H:Type)(enc:TypeId×Value→H):
  ReturnsInLeavingWide {} Tryz.checked os 12 .any (fun w args=>(Rows.toothNumberedSpec.pre enc Tryz.prog Tryz.f12 [] false w args∧laidMetH Tryz.prog [("errors.errorType",Rows.laid_errors_errorType)] w)∧sizedMet enc Tryz.prog Tryz.f12 (OpenSpec.ofChange Rows.toothNumberedSpec) false w args)
   (Rows.toothNumberedSpec.post enc Tryz.prog Tryz.f12 false true false false):=by
 refine returnsInLeavingWide_of_good (C:=Tryz.checked) Pal.Tryz.own started
  (ChangeSpec.witness_at (enc:=enc) (C:=Tryz.checked) (os:=os) (X:=fun w _=>laidMetH Tryz.prog [("errors.errorType",Rows.laid_errors_errorType)] w) false (O4 os) #[.slice none 0 0] 8 rfl (by kernel_rfl) (by kernel_rfl) (by kernel_rfl) (by kernel_rfl) (by kernel_rfl) (R4 os _)) ?_
 intro w tape i _ _ _ ap aq _;obtain⟨_,_,_,ar,au,_,_,_,_,am⟩:=ap;have av:ar=Tryz.f12:=Option.some.inj (au.symm.trans Tryz.func12);subst av;obtain⟨⟨⟨ds,gs,before,hw,aP⟩,_⟩,aQ⟩:=aq;have hW:=DataW.Whole.of_heap (w':=w.forCall tape i) (by rfl) hw;generalize w.forCall tape i=W at hW am ⊢;have ai:∀(j:Nat) t v,Tryz.f12.params[j]? =some t→i.args[j]? =some v→Value.okWide Tryz.prog W .any w.heap.size t v:=am;have aj:=hW;obtain⟨p,q,aw,ay,rfl,_,_⟩:=hW;have ak:DataW.TrodAll enc Tryz.prog W 0 (fun _=>true) true Tryz.f12.params.toList i.args.toList ds p:=aw;rw [Tryz.params12] at ak ai;obtain⟨blocks,args,vars⟩:=i;simp only at ak ai aj ⊢;obtain⟨v0,d0,rfl,rfl,an⟩:=trodAll_one ak;obtain⟨rfl,rfl⟩:=trodVars_none ay;obtain⟨V,len,cap,rfl⟩:=okWide_slice Tryz.underlying28 (ai 0 28 v0 rfl rfl);have az:=an;obtain⟨fuel,aA⟩:=an;simp only [List.append_nil] at aj;have aB:∀x∈p,x.block<W.heap.size:=fun x O=>by simpa using aj.lt x O
 have aC:∀(Y:World),Below W.heap.size W Y→DataW.Trod enc Tryz.prog Y 0 (fun b=>decide (b<W.heap.size)) true 28 (.slice V len cap) d0 p:=
  fun Y aD=>Below.trod Pal.Tryz.laidOut (by kernel_rfl) (of_decide_eq_true (by kernel_rfl)) az aD aB
 have close:∀(U:List Int),U.length=len→An rI (H7 W).E V cap U→(Rows.toothNumberedSpec.fn H ([d0]++ [])).results= [.lit (.bool true)]→(Rows.toothNumberedSpec.fn H ([d0]++ [])).args= [d0]→(Rows.toothNumberedSpec.fn H ([d0]++ [])).vars= []→
   ∃M last o w' K,runNT Tryz.checked.prog (M+1) (solo (G (Frame.enter Tryz.checked.prog 12 #[.slice V len cap] .normal) []) W) #[]=(.ended o w',K)∧
    runN Tryz.checked.prog M (solo (G (Frame.enter Tryz.checked.prog 12 #[.slice V len cap] .normal) []) W)= .next last∧step Tryz.checked.prog last= .ended o w'∧
    Conc.Good Tryz.checked.prog (fun v Y=>Rows.toothNumberedSpec.post enc Tryz.checked.prog Tryz.f12 false true false false W #[.slice V len cap] v Y) last o w' K:=by
  intro U aE aF aG aH ev;subst aE;have aI:=Vk (E:=(H7 W).E) (H:=fun _=>none) aF (fuel:=4000000000) (Wm (by omega) TE U);obtain⟨M,last,o,w',K,Z,aa,ab,ae⟩:=Ui aI;refine⟨M,last,o,w',K,Z,aa,ab,ae.mono fun v aJ=>?_⟩;obtain⟨⟨s,rfl⟩,ao⟩:=Sd aJ;refine⟨_,_,_,[],p,[],aj,?_,?_,by rw [ev];rfl,ao.frame _,fun h=>by cases h⟩
  ·rw [aG];exact trodAll_mk1 (shut_bool Tryz.underlying4 true)
  ·rw [aH];exact trodAll_mk1 (aC _ ao)
 rcases open_ints Tryz.underlying28 Tryz.underlying3 Pal.Tryz.Wb aA with⟨ah,O⟩ | ⟨a,aR,aS,U,ah,_,aK,hm,aL,O,aM,aT⟩
 ·simp [Value.cells] at ah;obtain⟨rfl,rfl,rfl⟩:=ah;simp only [Prod.mk.injEq] at O;obtain⟨rfl,rfl⟩:=O;obtain⟨M,last,o,w',K,Z,aa,ab,ae⟩:=close [] rfl An.nil rfl rfl rfl;exact⟨M,last,o,w',K,Z,aa,ab,ae.mono fun v al=>ChangeSpec.post_blind al⟩
 ·simp [Value.cells] at ah;obtain⟨rfl,rfl,rfl⟩:=ah;simp only [Prod.mk.injEq] at O;obtain⟨rfl,rfl⟩:=O;simp only [if_true] at aL;obtain⟨aN,_⟩:=Sa Tryz.underlying28 (ai 0 28 _ rfl rfl);obtain⟨aO,g2⟩:=TK aN aK (by omega) aM;obtain⟨M,last,o,w',K,Z,aa,ab,ae⟩:=close (U.take len) g2 aO rfl rfl rfl;exact⟨M,last,o,w',K,Z,aa,ab,ae.mono fun v al=>ChangeSpec.post_blind al⟩
end Go.Proofs.YtboibffcmhheiaaGreatDoor
namespace Go.Proofs.YtboibffcmhheiaaGreatDoor
open Go Pal
theorem RP:Rows.ToothNumberedSaid:=OpenClaim.holds_of_wide_leaving 12 Tryz.f12 rfl rfl rfl rfl rfl rfl rfl ⟨rfl,rfl,rfl,rfl,rfl⟩ rfl rfl rfl rfl rfl Om Tryz.func12 RQ RU RR (fun os started H enc _=>RN os started H enc)
theorem toothNumbered_card:Rows.ToothNumberedCardSaid:=
 Claim7.RS .later true [] [.handle] true (true,"69365d541d10418e9c50f3fa49e39882b4000503ae382df684d84938b40f1694") true
  RP (fun _ h=>by cases h) (by kernel_rfl) (fun _ h=>by cases h) toothNumbered_row_tie rfl ⟨rfl,rfl⟩ Tryz.LX.2.2.2 rfl
  (fun f fn K O=>by
   obtain rfl:f=12:=Option.some.inj (Om.symm.trans K) |>.symm
   obtain rfl:fn=Tryz.f12:=(Option.some.inj (Tryz.func12.symm.trans O)).symm
   exact⟨Tryz.Wn,fun j t ht=>by
    rw [Tryz.params12] at ht
    have U:t=28:=by
     rcases j with _ | j
     ·simpa using ht.symm
     ·simp at ht
    subst U
    exact(show Tryz.prog.wantsStandIn 28=false by kernel_rfl)⟩)
  RX
#print axioms toothNumbered_card
end Go.Proofs.YtboibffcmhheiaaGreatDoor
