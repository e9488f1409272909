/- ToothCheat answers true for every list of numbers, on every schedule; without a condition beyond those of the given row and card. Part 8 of 8. -/
import Derived.Test.YtboibffcmhheiaaGreatDoorChc
import Derived.Test.YtboibffcmhheiaaGreatDoorChe
import Derived.Test.YtboibffcmhheiaaGreatDoorChg
import Derived.Test.YtboibffcmhheiaaGreatDoorTie
import Derived.Test.YtboibffcmhheiaaGreatDoorCards
import Derived.SevenTiedAt
set_option linter.all false
set_option maxRecDepth 100000
namespace Go.Proofs.YtboibffcmhheiaaGreatDoor
open Go Pal Go.Conc Go.ChangeShapes Go.WideShapes Go.ChangeAt Go.RowKit
theorem ON:f22 200=some true:=by decide+kernel
theorem Nk(os:Os)(started:os.Started)(H:Type)(enc:TypeId×Value→H):
  ReturnsInLeavingWide {} Tryz.checked os 14 .any (fun w args=>(Rows.toothCheatSpec.pre enc Tryz.prog Tryz.f14 [] false w args∧laidMetH Tryz.prog [("errors.errorType",Rows.laid_errors_errorType)] w)∧sizedMet enc Tryz.prog Tryz.f14 (OpenSpec.ofChange Rows.toothCheatSpec) false w args)
   (Rows.toothCheatSpec.post enc Tryz.prog Tryz.f14 false true false false):=by
 refine returnsInLeavingWide_of_good (C:=Tryz.checked) Pal.Tryz.own started
  (ChangeSpec.witness_at (enc:=enc) (C:=Tryz.checked) (os:=os) (X:=fun w _=>laidMetH Tryz.prog [("errors.errorType",Rows.laid_errors_errorType)] w) false (Kq os) #[.slice none 0 0] 8 rfl (by kernel_rfl) (by kernel_rfl) (by kernel_rfl) (by kernel_rfl) (by kernel_rfl) (Ns os _)) ?_
 intro w tape i _ _ _ ap aq _;obtain⟨_,_,_,ar,au,_,_,_,_,al⟩:=ap;have av:ar=Tryz.f14:=Option.some.inj (au.symm.trans Tryz.func14);subst av;obtain⟨⟨⟨ds,gs,before,hw,aP⟩,_⟩,aQ⟩:=aq;have hW:=DataW.Whole.of_heap (w':=w.forCall tape i) (by rfl) hw;generalize w.forCall tape i=W at hW al ⊢;have ah:∀(j:Nat) t v,Tryz.f14.params[j]? =some t→i.args[j]? =some v→Value.okWide Tryz.prog W .any w.heap.size t v:=al;have ai:=hW;obtain⟨p,q,aw,ay,rfl,_,_⟩:=hW;have aj:DataW.TrodAll enc Tryz.prog W 0 (fun _=>true) true Tryz.f14.params.toList i.args.toList ds p:=aw;rw [Tryz.params14] at aj ah;obtain⟨blocks,args,vars⟩:=i;simp only at aj ah ai ⊢;obtain⟨v0,d0,rfl,rfl,am⟩:=trodAll_one aj;obtain⟨rfl,rfl⟩:=trodVars_none ay;obtain⟨U,len,cap,rfl⟩:=okWide_slice Tryz.underlying28 (ah 0 28 v0 rfl rfl);have az:=am;obtain⟨fuel,aA⟩:=am;simp only [List.append_nil] at ai;have aB:∀x∈p,x.block<W.heap.size:=fun x K=>by simpa using ai.lt x K
 have aC:∀(Z:World),Below W.heap.size W Z→DataW.Trod enc Tryz.prog Z 0 (fun b=>decide (b<W.heap.size)) true 28 (.slice U len cap) d0 p:=
  fun Z aD=>Below.trod Pal.Tryz.laidOut (by kernel_rfl) (of_decide_eq_true (by kernel_rfl)) az aD aB
 have close:∀(O:List Int),O.length=len→Ar rI (FE W).E U cap O→(Rows.toothCheatSpec.fn H ([d0]++ [])).results= [.lit (.bool true)]→(Rows.toothCheatSpec.fn H ([d0]++ [])).args= [d0]→(Rows.toothCheatSpec.fn H ([d0]++ [])).vars= []→
   ∃M last o w' A,runNT Tryz.checked.prog (M+1) (solo (G (Frame.enter Tryz.checked.prog 14 #[.slice U len cap] .normal) []) W) #[]=(.ended o w',A)∧
    runN Tryz.checked.prog M (solo (G (Frame.enter Tryz.checked.prog 14 #[.slice U len cap] .normal) []) W)= .next last∧step Tryz.checked.prog last= .ended o w'∧
    Conc.Good Tryz.checked.prog (fun v Z=>Rows.toothCheatSpec.post enc Tryz.checked.prog Tryz.f14 false true false false W #[.slice U len cap] v Z) last o w' A:=by
  intro O aE aF aG aH ev;have an:=Pu (E:=(FE W).E) (H:=fun _=>none) aF (fuel:=200) (Q3 (by omega) ON O);rw [aE] at an;obtain⟨M,last,o,w',A,aa,ab,ac,ae⟩:=Oy an;refine⟨M,last,o,w',A,aa,ab,ac,ae.mono fun v aI=>?_⟩;obtain⟨⟨s,rfl⟩,ao⟩:=NF aI;refine⟨_,_,_,[],p,[],ai,?_,?_,by rw [ev];rfl,ao.frame _,fun h=>by cases h⟩
  ·rw [aG];exact trodAll_mk1 (shut_bool Tryz.underlying4 true)
  ·rw [aH];exact trodAll_mk1 (aC _ ao)
 rcases open_ints Tryz.underlying28 Tryz.underlying3 Pal.Tryz.QQ aA with⟨ag,K⟩ | ⟨a,aR,aS,O,ag,_,aJ,hm,aK,K,aL,aT⟩
 ·simp [Value.cells] at ag;obtain⟨rfl,rfl,rfl⟩:=ag;simp only [Prod.mk.injEq] at K;obtain⟨rfl,rfl⟩:=K;obtain⟨M,last,o,w',A,aa,ab,ac,ae⟩:=close [] rfl Ar.nil rfl rfl rfl;exact⟨M,last,o,w',A,aa,ab,ac,ae.mono fun v ak=>ChangeSpec.post_blind ak⟩
 ·simp [Value.cells] at ag;obtain⟨rfl,rfl,rfl⟩:=ag;simp only [Prod.mk.injEq] at K;obtain⟨rfl,rfl⟩:=K;simp only [if_true] at aK;obtain⟨aM,_⟩:=Nz Tryz.underlying28 (ah 0 28 _ rfl rfl);obtain⟨aN,aO⟩:=OY aM aJ (by omega) aL;obtain⟨M,last,o,w',A,aa,ab,ac,ae⟩:=close (O.take len) aO aN rfl rfl rfl;exact⟨M,last,o,w',A,aa,ab,ac,ae.mono fun v ak=>ChangeSpec.post_blind ak⟩
end Go.Proofs.YtboibffcmhheiaaGreatDoor
namespace Go.Proofs.YtboibffcmhheiaaGreatDoor
open Go Pal
theorem Nl:Rows.ToothCheatSaid:=OpenClaim.holds_of_wide_leaving 14 Tryz.f14 rfl rfl rfl rfl rfl rfl rfl ⟨rfl,rfl,rfl,rfl,rfl⟩ rfl rfl rfl rfl rfl JZ Tryz.func14 Nm No Nn (fun os started H enc _=>Nk os started H enc)
theorem toothCheat_card:Rows.ToothCheatCardSaid:=
 Claim7.Nj .later true [] [.handle] true (true,"69365d541d10418e9c50f3fa49e39882b4000503ae382df684d84938b40f1694") true
  Nl (fun _ h=>by cases h) (by kernel_rfl) (fun _ h=>by cases h) toothCheat_row_tie rfl ⟨rfl,rfl⟩ Tryz.HZ.2.2.2 rfl
  (fun f fn A K=>by
   obtain rfl:f=14:=Option.some.inj (JZ.symm.trans A) |>.symm
   obtain rfl:fn=Tryz.f14:=(Option.some.inj (Tryz.func14.symm.trans K)).symm
   exact⟨Tryz.Rb,fun j t ht=>by
    rw [Tryz.params14] at ht
    have O:t=28:=by
     rcases j with _ | j
     ·simpa using ht.symm
     ·simp at ht
    subst O
    exact(show Tryz.prog.wantsStandIn 28=false by kernel_rfl)⟩)
  Np
#print axioms toothCheat_card
end Go.Proofs.YtboibffcmhheiaaGreatDoor
