/- ToothMore. Part 8 of 8. -/
import Derived.Test.YtboibffcmhheiaaGreatDoorTrc
import Derived.Test.YtboibffcmhheiaaGreatDoorTre
import Derived.Test.YtboibffcmhheiaaGreatDoorTrg
import Derived.Test.YtboibffcmhheiaaGreatDoorTie
import Derived.Test.YtboibffcmhheiaaGreatDoorCards
import Derived.SevenTiedAt
set_option linter.all false
set_option maxRecDepth 100000
namespace Go.Proofs.YtboibffcmhheiaaGreatDoor
open Go Pal Go.Conc Go.ChangeShapes Go.WideShapes Go.ChangeAt Go.RowKit
theorem Tb:f22 4000000000=some true:=by decide+kernel
theorem Re(os:Os)(started:os.Started)(H:Type)(enc:TypeId×Value→H):
  ReturnsInLeavingWide {} Tryz.checked os 6 .any (fun w args=>(Rows.toothMoreSpec.pre enc Tryz.prog Tryz.f6 [] false w args∧laidMetH Tryz.prog [("errors.errorType",Rows.laid_errors_errorType)] w)∧sizedMet enc Tryz.prog Tryz.f6 (OpenSpec.ofChange Rows.toothMoreSpec) false w args)
   (Rows.toothMoreSpec.post enc Tryz.prog Tryz.f6 false true false false):=by
 refine returnsInLeavingWide_of_good (C:=Tryz.checked) Pal.Tryz.own started
  (ChangeSpec.witness_at (enc:=enc) (C:=Tryz.checked) (os:=os) (X:=fun w _=>laidMetH Tryz.prog [("errors.errorType",Rows.laid_errors_errorType)] w) false (On os) #[.slice none 0 0] 8 rfl (by kernel_rfl) (by kernel_rfl) (by kernel_rfl) (by kernel_rfl) (by kernel_rfl) (Ro os _)) ?_
 intro w tape i _ _ _ ao ap _;obtain⟨_,_,_,aq,ar,_,_,_,_,al⟩:=ao;have au:aq=Tryz.f6:=Option.some.inj (ar.symm.trans Tryz.func6);subst au;obtain⟨⟨⟨ds,gs,before,hw,aO⟩,_⟩,aP⟩:=ap;have hW:=DataW.Whole.of_heap (w':=w.forCall tape i) (by rfl) hw;generalize w.forCall tape i=W at hW al ⊢;have ah:∀(j:Nat) t v,Tryz.f6.params[j]? =some t→i.args[j]? =some v→Value.okWide Tryz.prog W .any w.heap.size t v:=al;have ai:=hW;obtain⟨p,q,av,aw,rfl,_,_⟩:=hW;have aj:DataW.TrodAll enc Tryz.prog W 0 (fun _=>true) true Tryz.f6.params.toList i.args.toList ds p:=av;rw [Tryz.params6] at aj ah;obtain⟨blocks,args,vars⟩:=i;simp only at aj ah ai ⊢;obtain⟨v0,d0,rfl,rfl,am⟩:=trodAll_one aj;obtain⟨rfl,rfl⟩:=trodVars_none aw;obtain⟨V,len,cap,rfl⟩:=okWide_slice Tryz.underlying28 (ah 0 28 v0 rfl rfl);have ay:=am;obtain⟨fuel,az⟩:=am;simp only [List.append_nil] at ai;have aA:∀x∈p,x.block<W.heap.size:=fun x O=>by simpa using ai.lt x O
 have aB:∀(Y:World),Below W.heap.size W Y→DataW.Trod enc Tryz.prog Y 0 (fun b=>decide (b<W.heap.size)) true 28 (.slice V len cap) d0 p:=
  fun Y aC=>Below.trod Pal.Tryz.laidOut (by kernel_rfl) (of_decide_eq_true (by kernel_rfl)) ay aC aA
 have close:∀(U:List Int),U.length=len→An rI (HZ W).E V cap U→(Rows.toothMoreSpec.fn H ([d0]++ [])).results= [.lit (.bool true)]→(Rows.toothMoreSpec.fn H ([d0]++ [])).args= [d0]→(Rows.toothMoreSpec.fn H ([d0]++ [])).vars= []→
   ∃M last o w' K,runNT Tryz.checked.prog (M+1) (solo (G (Frame.enter Tryz.checked.prog 6 #[.slice V len cap] .normal) []) W) #[]=(.ended o w',K)∧
    runN Tryz.checked.prog M (solo (G (Frame.enter Tryz.checked.prog 6 #[.slice V len cap] .normal) []) W)= .next last∧step Tryz.checked.prog last= .ended o w'∧
    Conc.Good Tryz.checked.prog (fun v Y=>Rows.toothMoreSpec.post enc Tryz.checked.prog Tryz.f6 false true false false W #[.slice V len cap] v Y) last o w' K:=by
  intro U aD aE aF aG ev;subst aD;have aH:=VD (E:=(HZ W).E) (H:=fun _=>none) aE (fuel:=4000000000) (V6 (by omega) Tb U);obtain⟨M,last,o,w',K,Z,aa,ab,ae⟩:=Tq aH;refine⟨M,last,o,w',K,Z,aa,ab,ae.mono fun v aI=>?_⟩;obtain⟨⟨s,rfl⟩,an⟩:=RE aI;refine⟨_,_,_,[],p,[],ai,?_,?_,by rw [ev];rfl,an.frame _,fun h=>by cases h⟩
  ·rw [aF];exact trodAll_mk1 (shut_bool Tryz.underlying4 true)
  ·rw [aG];exact trodAll_mk1 (aB _ an)
 rcases open_ints Tryz.underlying28 Tryz.underlying3 Pal.Tryz.VE az with⟨ag,O⟩ | ⟨a,aQ,aR,U,ag,_,aJ,hm,aK,O,aL,aS⟩
 ·simp [Value.cells] at ag;obtain⟨rfl,rfl,rfl⟩:=ag;simp only [Prod.mk.injEq] at O;obtain⟨rfl,rfl⟩:=O;obtain⟨M,last,o,w',K,Z,aa,ab,ae⟩:=close [] rfl An.nil rfl rfl rfl;exact⟨M,last,o,w',K,Z,aa,ab,ae.mono fun v ak=>ChangeSpec.post_blind ak⟩
 ·simp [Value.cells] at ag;obtain⟨rfl,rfl,rfl⟩:=ag;simp only [Prod.mk.injEq] at O;obtain⟨rfl,rfl⟩:=O;simp only [if_true] at aK;obtain⟨aM,_⟩:=Ry Tryz.underlying28 (ah 0 28 _ rfl rfl);obtain⟨aN,g2⟩:=S9 aM aJ (by omega) aL;obtain⟨M,last,o,w',K,Z,aa,ab,ae⟩:=close (U.take len) g2 aN rfl rfl rfl;exact⟨M,last,o,w',K,Z,aa,ab,ae.mono fun v ak=>ChangeSpec.post_blind ak⟩
end Go.Proofs.YtboibffcmhheiaaGreatDoor
namespace Go.Proofs.YtboibffcmhheiaaGreatDoor
open Go Pal
theorem Rf:Rows.ToothMoreSaid:=OpenClaim.holds_of_wide_leaving 6 Tryz.f6 rfl rfl rfl rfl rfl rfl rfl ⟨rfl,rfl,rfl,rfl,rfl⟩ rfl rfl rfl rfl rfl NU Tryz.func6 Rg Rh Ri (fun os started H enc _=>Re os started H enc)
theorem toothMore_card:Rows.ToothMoreCardSaid:=
 Claim7.Rc .later true [] [.handle] true (true,"69365d541d10418e9c50f3fa49e39882b4000503ae382df684d84938b40f1694") true
  Rf (fun _ h=>by cases h) (by kernel_rfl) (fun _ h=>by cases h) toothMore_row_tie rfl ⟨rfl,rfl⟩ Tryz.LI.2.2.2 rfl
  (fun f fn K O=>by
   obtain rfl:f=6:=Option.some.inj (NU.symm.trans K) |>.symm
   obtain rfl:fn=Tryz.f6:=(Option.some.inj (Tryz.func6.symm.trans O)).symm
   exact⟨Tryz.U9,fun j t ht=>by
    rw [Tryz.params6] at ht
    have U:t=28:=by
     rcases j with _ | j
     ·simpa using ht.symm
     ·simp at ht
    subst U
    exact(show Tryz.prog.wantsStandIn 28=false by kernel_rfl)⟩)
  Rm
#print axioms toothMore_card
end Go.Proofs.YtboibffcmhheiaaGreatDoor
