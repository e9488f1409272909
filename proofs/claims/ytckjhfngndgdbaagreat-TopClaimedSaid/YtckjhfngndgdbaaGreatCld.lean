/- TopClaimed: the claims of a book as words of vouchers: a part (4 of 8) of the proof of its row. -/
import Derived.Test.YtckjhfngndgdbaaGreatCla
import Derived.Test.YtckjhfngndgdbaaGreatClb
import Derived.Test.YtckjhfngndgdbaaGreatClc
import Derived.Conc.ClockLaws
import Derived.Conc.WgGenN3
import Derived.MapKept
set_option linter.all false
set_option maxRecDepth 100000
namespace Pal
open Go Go.Conc Go.Proofs
def LY(fuel:Nat)(p0:Int×Int×Int×Int)(K:Int):Option (BX (Int) (((Nat×Int×Int×Int))⊕(Unit))):=
 if K<((([(0,p0.2.2.1,0,0),(1,p0.2.2.1,0,0),(2,p0.2.2.1,0,0),(3,p0.2.2.1,0,0),(4,p0.2.2.1,p0.2.2.2,0),(5,p0.2.2.1,p0.2.2.2,0),(6,p0.2.2.1,0,0)]:List (Nat×Int×Int×Int))).length:Int) then(
  (ix ([(0,p0.2.2.1,0,0),(1,p0.2.2.1,0,0),(2,p0.2.2.1,0,0),(3,p0.2.2.1,0,0),(4,p0.2.2.1,p0.2.2.2,0),(5,p0.2.2.1,p0.2.2.2,0),(6,p0.2.2.1,0,0)]:List (Nat×Int×Int×Int)) (K)).bind λO=>
  (MC fuel O).bind λU=>
  if U=p0.2.1 then(
   some (.done (Sum.inl O))
  ) else(
   (AR (K+1)).bind λV=>
   some (.more V)
  )
 ) else(
  some (.done (Sum.inr ()))
 )
def Jn(fuel:Nat)(p0:Int×Int×Int×Int):Option ((Nat×Int×Int×Int)):=
 Option.bind (iter (LY fuel p0) fuel 0) λK=>
 Sum.elim (λr=>some r) (λO=>
 some (7,0,0,0)
 ) K
variable{J:Judge Tryz.prog}{E:LH}{fuel:Nat}
theorem Qn{p0:Int×Int×Int×Int}{r:(Nat×Int×Int×Int)}(ao:Jn fuel p0=some r):Ax J 55 [.agg #[iV p0.1,iV p0.2.1,iV p0.2.2.1,iV p0.2.2.2]] E [] (λw E' B'=>w=BQ [(140,1),(141,1),(143,1),(144,1),(146,2),(148,2),(150,1)] (r)/\B'=[]/\(r).1<=7):=by
 refine Ax.enter Tryz.func55 rfl (d4 rfl) λQ a7 cs H aI ap=>?_;unfold Jn at ao;refine JL.seq (JL.region ?_);refine JS.box (v:=.agg #[iV p0.1,iV p0.2.1,iV p0.2.2.1,iV p0.2.2.2]) rfl rfl rfl aI rfl λr2 aJ=>A8 1 aJ rfl λZ aq K aK=>?_;replace K:At Z r2 0 [iV p0.1,iV p0.2.1,iV p0.2.2.1,iV p0.2.2.2]:=K;refine Ac (v:=.nilIface) rfl rfl rfl (λρ h=>Yl.assign (h _ _ rfl)) (JL.done ?_);refine JL.seq (JL.seq ?_);refine JL.region (Ac (v:=.pointer (some ⟨r2,2,none⟩)) rfl rfl rfl (λρ h=>Aq (a:=⟨r2,0,none⟩) 0 2 Tryz.underlying44 Aw rfl rfl rfl (h _ _ rfl)) ?_);refine Ac (v:=iV p0.2.2.1) rfl rfl rfl (λρ h=>Yl.load AD (h _ _ rfl) (At.AN (j:=2) K rfl)) (Ac (v:=.agg #[iV p0.2.2.1]) rfl rfl rfl (λρ h=>Cf [(0,1)] h Lh Tryz.underlying140 ⟨rfl,AB Tryz.type3,trivial⟩ rfl rfl) ?_);refine Ac (v:=.iface 140 (.agg #[iV p0.2.2.1])) rfl rfl rfl (λρ h=>Gu Tryz.underlying140 (λ_ h=>by cases h) (h _ _ rfl)) (Ac (v:=.pointer (some ⟨r2,2,none⟩)) rfl rfl rfl (λρ h=>Aq (a:=⟨r2,0,none⟩) 0 2 Tryz.underlying44 Aw rfl rfl rfl (h _ _ rfl)) ?_);refine Ac (v:=iV p0.2.2.1) rfl rfl rfl (λρ h=>Yl.load AD (h _ _ rfl) (At.AN (j:=2) K rfl)) (Ac (v:=.agg #[iV p0.2.2.1]) rfl rfl rfl (λρ h=>Cf [(0,1)] h Li Tryz.underlying141 ⟨rfl,AB Tryz.type3,trivial⟩ rfl rfl) ?_);refine Ac (v:=.iface 141 (.agg #[iV p0.2.2.1])) rfl rfl rfl (λρ h=>Gu Tryz.underlying141 (λ_ h=>by cases h) (h _ _ rfl)) (Ac (v:=.pointer (some ⟨r2,2,none⟩)) rfl rfl rfl (λρ h=>Aq (a:=⟨r2,0,none⟩) 0 2 Tryz.underlying44 Aw rfl rfl rfl (h _ _ rfl)) ?_);refine Ac (v:=iV p0.2.2.1) rfl rfl rfl (λρ h=>Yl.load AD (h _ _ rfl) (At.AN (j:=2) K rfl)) (Ac (v:=.agg #[iV p0.2.2.1]) rfl rfl rfl (λρ h=>Cf [(0,1)] h Lf Tryz.underlying143 ⟨rfl,AB Tryz.type3,trivial⟩ rfl rfl) ?_);refine Ac (v:=.iface 143 (.agg #[iV p0.2.2.1])) rfl rfl rfl (λρ h=>Gu Tryz.underlying143 (λ_ h=>by cases h) (h _ _ rfl)) (Ac (v:=.pointer (some ⟨r2,2,none⟩)) rfl rfl rfl (λρ h=>Aq (a:=⟨r2,0,none⟩) 0 2 Tryz.underlying44 Aw rfl rfl rfl (h _ _ rfl)) ?_);refine Ac (v:=iV p0.2.2.1) rfl rfl rfl (λρ h=>Yl.load AD (h _ _ rfl) (At.AN (j:=2) K rfl)) (Ac (v:=.agg #[iV p0.2.2.1]) rfl rfl rfl (λρ h=>Cf [(0,1)] h Lg Tryz.underlying144 ⟨rfl,AB Tryz.type3,trivial⟩ rfl rfl) ?_);refine Ac (v:=.iface 144 (.agg #[iV p0.2.2.1])) rfl rfl rfl (λρ h=>Gu Tryz.underlying144 (λ_ h=>by cases h) (h _ _ rfl)) (Ac (v:=.pointer (some ⟨r2,2,none⟩)) rfl rfl rfl (λρ h=>Aq (a:=⟨r2,0,none⟩) 0 2 Tryz.underlying44 Aw rfl rfl rfl (h _ _ rfl)) ?_);refine Ac (v:=iV p0.2.2.1) rfl rfl rfl (λρ h=>Yl.load AD (h _ _ rfl) (At.AN (j:=2) K rfl)) (Ac (v:=.pointer (some ⟨r2,3,none⟩)) rfl rfl rfl (λρ h=>Aq (a:=⟨r2,0,none⟩) 0 3 Tryz.underlying44 Aw rfl rfl rfl (h _ _ rfl)) ?_);refine Ac (v:=iV p0.2.2.2) rfl rfl rfl (λρ h=>Yl.load AD (h _ _ rfl) (At.AN (j:=3) K rfl)) (Ac (v:=.agg #[iV p0.2.2.1,iV p0.2.2.2]) rfl rfl rfl (λρ h=>Cf [(0,1),(1,1)] h J3 Tryz.underlying146 ⟨rfl,AB Tryz.type3,rfl,AB Tryz.type3,trivial⟩ rfl rfl) ?_);refine Ac (v:=.iface 146 (.agg #[iV p0.2.2.1,iV p0.2.2.2])) rfl rfl rfl (λρ h=>Gu Tryz.underlying146 (λ_ h=>by cases h) (h _ _ rfl)) (Ac (v:=.pointer (some ⟨r2,2,none⟩)) rfl rfl rfl (λρ h=>Aq (a:=⟨r2,0,none⟩) 0 2 Tryz.underlying44 Aw rfl rfl rfl (h _ _ rfl)) ?_);refine Ac (v:=iV p0.2.2.1) rfl rfl rfl (λρ h=>Yl.load AD (h _ _ rfl) (At.AN (j:=2) K rfl)) (Ac (v:=.pointer (some ⟨r2,3,none⟩)) rfl rfl rfl (λρ h=>Aq (a:=⟨r2,0,none⟩) 0 3 Tryz.underlying44 Aw rfl rfl rfl (h _ _ rfl)) ?_);refine Ac (v:=iV p0.2.2.2) rfl rfl rfl (λρ h=>Yl.load AD (h _ _ rfl) (At.AN (j:=3) K rfl)) (Ac (v:=.agg #[iV p0.2.2.1,iV p0.2.2.2]) rfl rfl rfl (λρ h=>Cf [(0,1),(1,1)] h J2 Tryz.underlying148 ⟨rfl,AB Tryz.type3,rfl,AB Tryz.type3,trivial⟩ rfl rfl) ?_);refine Ac (v:=.iface 148 (.agg #[iV p0.2.2.1,iV p0.2.2.2])) rfl rfl rfl (λρ h=>Gu Tryz.underlying148 (λ_ h=>by cases h) (h _ _ rfl)) (Ac (v:=.pointer (some ⟨r2,2,none⟩)) rfl rfl rfl (λρ h=>Aq (a:=⟨r2,0,none⟩) 0 2 Tryz.underlying44 Aw rfl rfl rfl (h _ _ rfl)) ?_);refine Ac (v:=iV p0.2.2.1) rfl rfl rfl (λρ h=>Yl.load AD (h _ _ rfl) (At.AN (j:=2) K rfl)) (Ac (v:=.agg #[iV p0.2.2.1]) rfl rfl rfl (λρ h=>Cf [(0,1)] h J6 Tryz.underlying150 ⟨rfl,AB Tryz.type3,trivial⟩ rfl rfl) ?_);refine Ac (v:=.iface 150 (.agg #[iV p0.2.2.1])) rfl rfl rfl (λρ h=>Gu Tryz.underlying150 (λ_ h=>by cases h) (h _ _ rfl)) (H8 (pp:=(Xm [(140,1),(141,1),(143,1),(144,1),(146,2),(148,2),(150,1)])) [.iface 140 (.agg #[iV p0.2.2.1]),.iface 141 (.agg #[iV p0.2.2.1]),.iface 143 (.agg #[iV p0.2.2.1]),.iface 144 (.agg #[iV p0.2.2.1]),.iface 146 (.agg #[iV p0.2.2.1,iV p0.2.2.2]),.iface 148 (.agg #[iV p0.2.2.1,iV p0.2.2.2]),.iface 150 (.agg #[iV p0.2.2.1])] [(0,p0.2.2.1,0,0),(1,p0.2.2.1,0,0),(2,p0.2.2.1,0,0),(3,p0.2.2.1,0,0),(4,p0.2.2.1,p0.2.2.2,0),(5,p0.2.2.1,p0.2.2.2,0),(6,p0.2.2.1,0,0)] rfl rfl rfl Tryz.underlying174 (AB Tryz.type137) (Cm Tryz.type137) (by decide) rfl rfl rfl ⟨⟨rfl,(d4 rfl)⟩,⟨rfl,(d4 rfl)⟩,⟨rfl,(d4 rfl)⟩,⟨rfl,(d4 rfl)⟩,⟨rfl,(d4 rfl)⟩,⟨rfl,(d4 rfl)⟩,⟨rfl,(d4 rfl)⟩,trivial⟩ aK λar au aL aM=>?_);refine Ac (v:=iV ((([(0,p0.2.2.1,0,0),(1,p0.2.2.1,0,0),(2,p0.2.2.1,0,0),(3,p0.2.2.1,0,0),(4,p0.2.2.1,p0.2.2.2,0),(5,p0.2.2.1,p0.2.2.2,0),(6,p0.2.2.1,0,0)]:List (Nat×Int×Int×Int))).length:Int)) rfl rfl rfl (λρ h=>Yl.len rfl Tryz.underlying174 (h _ _ rfl)) (Ac (v:=iV 0) rfl rfl rfl (λρ h=>Yl.move (h _ _ rfl)) ?_);refine JL.done ?_;let⟨aa,aN,av⟩:=bind_some ao;refine Bj (λL s=>∃(aw:Unit) (ab:LH),aa=Sum.inr aw/\L=[]/\s=Ae ab H []/\Le Z ab/\Ak ab H []) ?_ ?_;rintro _ _ ⟨aw,ab,rfl,rfl,rfl,aO,aP⟩;have aQ:=elim_inr av;refine JL.seq (JL.region ?_);refine Ac (v:=.nilIface) rfl rfl rfl (λρ h=>Yl.assign (h _ _ rfl)) (JL.done ?_);have a8:r=(7,0,0,0):=(d0 aQ).symm;subst r;exact JL.ret (v:=.nilIface) rfl rfl (Ay.list Tryz.func55 rfl (vs:=[.nilIface]) ⟨rfl,trivial⟩) (ap _ _ _ _ (aq.trans aO) rfl ⟨rfl,rfl,(d4 rfl)⟩ aP);intro aR;refine JL.block (Ap (L':=[(1,.pointer (some ⟨r2,0,none⟩)),(37,.slice (some ⟨ar,0,none⟩) (([(0,p0.2.2.1,0,0),(1,p0.2.2.1,0,0),(2,p0.2.2.1,0,0),(3,p0.2.2.1,0,0),(4,p0.2.2.1,p0.2.2.2,0),(5,p0.2.2.1,p0.2.2.2,0),(6,p0.2.2.1,0,0)]:List (Nat×Int×Int×Int))).length 7),(38,iV ((([(0,p0.2.2.1,0,0),(1,p0.2.2.1,0,0),(2,p0.2.2.1,0,0),(3,p0.2.2.1,0,0),(4,p0.2.2.1,p0.2.2.2,0),(5,p0.2.2.1,p0.2.2.2,0),(6,p0.2.2.1,0,0)]:List (Nat×Int×Int×Int))).length:Int)),(39,iV 0)]) ⟨rfl,rfl,rfl,rfl,trivial⟩ ?_);refine CG aN (λL s ac=>∃(V:LH),L=[(1,.pointer (some ⟨r2,0,none⟩)),(37,.slice (some ⟨ar,0,none⟩) (([(0,p0.2.2.1,0,0),(1,p0.2.2.1,0,0),(2,p0.2.2.1,0,0),(3,p0.2.2.1,0,0),(4,p0.2.2.1,p0.2.2.2,0),(5,p0.2.2.1,p0.2.2.2,0),(6,p0.2.2.1,0,0)]:List (Nat×Int×Int×Int))).length 7),(38,iV ((([(0,p0.2.2.1,0,0),(1,p0.2.2.1,0,0),(2,p0.2.2.1,0,0),(3,p0.2.2.1,0,0),(4,p0.2.2.1,p0.2.2.2,0),(5,p0.2.2.1,p0.2.2.2,0),(6,p0.2.2.1,0,0)]:List (Nat×Int×Int×Int))).length:Int)),(39,iV ac)]/\s=Ae V H [au]/\Le Z V/\Ak V H [au]) ⟨Z,rfl,rfl,(Le.refl _),aM⟩ ?_;rintro _ _ ac ⟨V,rfl,rfl,Y,ah⟩ ay ⟨U,ae⟩ aS;have ai:=ae;unfold LY at ai;refine JL.seq (JL.region ?_);refine Ac (v:=.bool (decide (ac<((([(0,p0.2.2.1,0,0),(1,p0.2.2.1,0,0),(2,p0.2.2.1,0,0),(3,p0.2.2.1,0,0),(4,p0.2.2.1,p0.2.2.2,0),(5,p0.2.2.1,p0.2.2.2,0),(6,p0.2.2.1,0,0)]:List (Nat×Int×Int×Int))).length:Int)))) rfl rfl rfl (λρ h=>Yl.lss (h _ _ rfl) (h _ _ rfl)) (JL.done ?_);refine JL.seq (AU (p:=ac<((([(0,p0.2.2.1,0,0),(1,p0.2.2.1,0,0),(2,p0.2.2.1,0,0),(3,p0.2.2.1,0,0),(4,p0.2.2.1,p0.2.2.2,0),(5,p0.2.2.1,p0.2.2.2,0),(6,p0.2.2.1,0,0)]:List (Nat×Int×Int×Int))).length:Int)) rfl (λaj=>?_) (λaj=>?_));have az:=ai;rw[d5 aj] at az;refine JL.skip ?_;refine JL.seq ?_;refine JL.block ?_;refine JL.seq ?_;refine JL.region ?_;let⟨O,aT,aU⟩:=bind_some az;refine P3 0 (aL.Ag Y) aT rfl rfl rfl rfl rfl rfl Tryz.underlying174 (AB Tryz.type137) ?_;rintro a9 aV f44 _ aW ⟨rfl,aA⟩ ak ba bb be bf;replace ak:∀(j:Nat) w,[BQ [(140,1),(141,1),(143,1),(144,1),(146,2),(148,2),(150,1)] O][j]?=some w->f44[aV+j]?=some w:=ak;refine Ac (v:=BQ [(140,1),(141,1),(143,1),(144,1),(146,2),(148,2),(150,1)] O) rfl rfl rfl (λρ h=>Yl.load (De Tryz.underlying137) (h _ _ rfl) (CB (j:=0) ah aW (ak 0 _ rfl))) ?_;refine Ac (v:=BQ [(140,1),(141,1),(143,1),(144,1),(146,2),(148,2),(150,1)] O) rfl rfl rfl (λρ h=>Yl.assign (h _ _ rfl)) ?_;refine JL.done ?_;refine JL.seq ?_;refine DJ 4 mixed rfl (by decide+kernel) λal=>?_;refine JG.val (v:=BQ [(140,1),(141,1),(143,1),(144,1),(146,2),(148,2),(150,1)] O) 0 rfl al (by decide+kernel) rfl rfl rfl (λρ h s' am=>Yl.move (h _ _ rfl)) ?_;refine JG.val (v:=.pointer (some ⟨r2,1,none⟩)) 2 rfl al (by decide+kernel) rfl rfl rfl (λρ h s' am=>Aq (a:=⟨r2,0,none⟩) 0 1 Tryz.underlying44 Aw rfl rfl rfl (h _ _ rfl)) ?_;refine JG.val (v:=iV p0.2.1) 3 rfl al (by decide+kernel) rfl rfl rfl (λρ h s' am=>Yl.load AD (h _ _ rfl) (At.BS (j:=1) (K.Ag Y) am rfl)) ?_;let⟨aB,aX,aC⟩:=bind_some aU;refine PY (i:=1) (vs:=[]) (Un aA aX) (by decide+kernel) rfl rfl rfl rfl rfl ah ?_;rintro _ aY _ aD ⟨rfl,rfl⟩ aE;refine AL.leaf (tail:=[4]) (by decide+kernel) (λt=>Bb (by decide+kernel) Cn t) ?_;refine Ac (v:=.bool (decide (aB=p0.2.1))) rfl rfl rfl (λρ h=>Yl.eql (h _ _ rfl) (h _ _ rfl)) ?_;refine JL.done ?_;refine AU (p:=aB=p0.2.1) rfl (λan=>?_) (λan=>?_);have aF:=aC;rw[d5 an] at aF;refine JL.seq ?_;refine JL.region ?_;refine Ac (v:=BQ [(140,1),(141,1),(143,1),(144,1),(146,2),(148,2),(150,1)] O) rfl rfl rfl (λρ h=>Yl.move (h _ _ rfl)) ?_;refine Ac (v:=BQ [(140,1),(141,1),(143,1),(144,1),(146,2),(148,2),(150,1)] O) rfl rfl rfl (λρ h=>Yl.assign (h _ _ rfl)) ?_;refine JL.done ?_;refine JS.drop 0 aE rfl λaZ=>?_;have bg:U=.done (Sum.inl O):=(d0 aF).symm;subst U;have bh:aa=Sum.inl O:=(ay _ ae).symm;subst aa;have a2:=elim_inl av;have bi:r=O:=(d0 a2).symm;subst r;refine JL.ret (v:=BQ [(140,1),(141,1),(143,1),(144,1),(146,2),(148,2),(150,1)] O) rfl rfl (Ay.list Tryz.func55 rfl (vs:=[BQ [(140,1),(141,1),(143,1),(144,1),(146,2),(148,2),(150,1)] O]) ⟨rfl,trivial⟩) ?_;exact ap _ _ _ _ ((aq.trans Y).trans aD) rfl ⟨rfl,rfl,aA⟩ aZ;have aG:=aC;rw[d7 an] at aG;refine JL.skip ?_;refine Bv ?_;refine JL.region ?_;let⟨ag,a3,a4⟩:=bind_some aG;refine Ac (v:=iV ag) rfl rfl rfl (λρ h=>BH (h _ _ rfl) (h _ _ rfl) a3) ?_;refine Ac (v:=iV ag) rfl rfl rfl (λρ h=>Yl.move (h _ _ rfl)) ?_;refine JL.done ?_;have bj:U=.more ag:=(d0 a4).symm;subst U;refine Ap ?_ (aS _ _ ag ⟨aY,rfl,rfl,(Y.trans aD),aE⟩ ae);exact⟨rfl,rfl,rfl,rfl,trivial⟩;have aH:=ai;rw[d7 aj] at aH;refine JL.exit rfl ?_;refine JS.drop 0 ah rfl λa5=>?_;have bl:U=.done (Sum.inr ()):=(d0 aH).symm;subst U;have a6:aa=(Sum.inr ()):=(ay _ ae).symm;refine Ap ?_ (aR _ _ ⟨(),V,a6,rfl,rfl,Y,a5⟩);exact trivial
def KT(fuel:Nat)(p0:Int×Int×(List (Int×Int×Int×Int)))(p1:Int×Int×Int×Int):Option (Unit):=
 (AR (p0.1 - 1)).bind λO=>
 (Fb fuel p1.1 0 O).bind λU=>
 (EM fuel U 3).bind λau=>
 (Jn fuel p1).bind λK=>
 (EM fuel (decide (K.1<7)) 8).bind λav=>
 Option.bind (
  if K.1=0 then(
   some true
  ) else(
   some (decide (K.1=1))
  )
 ) λV=>
 Option.bind (
  if V=true then(
   (AR (p0.2.1 - 1)).bind λY=>
   (Fb fuel p1.2.2.1 0 Y).bind λZ=>
   (EM fuel Z 3).bind λaw=>
   some ()
  ) else(
   Option.bind (
    if K.1=2 then(
     some true
    ) else(
     some (decide (K.1=3))
    )
   ) λaa=>
   Option.bind (
    if aa=true then(
     (AR (p0.1 - 1)).bind λab=>
     (Fb fuel p1.2.2.1 0 ab).bind λac=>
     (EM fuel ac 3).bind λay=>
     some ()
    ) else(
     Option.bind (
      if K.1=4 then(
       (AR (p0.2.1 - 1)).bind λae=>
       (Fb fuel (vF K 4 0) 0 ae).bind λag=>
       Option.bind (
        if ag=true then(
         (AR (p0.2.1 - 1)).bind λah=>
         (Fb fuel (vF K 4 1) 0 ah).bind λai=>
         some ai
        ) else(
         some false
        )
       ) λaj=>
       (EM fuel aj 3).bind λaz=>
       some ()
      ) else(
       Option.bind (
        if K.1=5 then(
         (AR (p0.1 - 1)).bind λak=>
         (Fb fuel (vF K 5 0) 0 ak).bind λal=>
         Option.bind (
          if al=true then(
           (AR (p0.1 - 1)).bind λam=>
           (Fb fuel (vF K 5 1) 0 am).bind λan=>
           some an
          ) else(
           some false
          )
         ) λao=>
         (EM fuel ao 3).bind λaA=>
         (EM fuel (decide ((vF K 5 0)<(vF K 5 1))) 5).bind λaB=>
         some ()
        ) else(
         Option.bind (
          if K.1=6 then(
           (Fb fuel (vF K 6 0) 0 p0.1).bind λap=>
           (EM fuel ap 1).bind λaC=>
           some ()
          ) else(
           some ()
          )
         ) λaD=>
         some ()
        )
       ) λaE=>
       some ()
      )
     ) λaF=>
     some ()
    )
   ) λaG=>
   some ()
  )
 ) λaH=>
 (KU fuel p1.2.1).bind λaq=>
 Option.bind (
  if 1<aq then(
   some true
  ) else(
   some (decide (p1.2.2.2=0))
  )
 ) λar=>
 (EM fuel ar 1).bind λaI=>
 some ()
variable{a1:Option Addr}{c2:Nat}{p0:Int×Int×(List (Int×Int×Int×Int))}
theorem VB{p1:Int×Int×Int×Int}(eZ:AK (rP rI (rP rI (rP rI rI))) E a1 c2 (p0.2.2)){r:Unit}(a9:KT fuel p0 p1=some r):Ax J 43 [.agg #[iV p0.1,iV p0.2.1,.slice a1 (p0.2.2).length c2],.agg #[iV p1.1,iV p1.2.1,iV p1.2.2.1,iV p1.2.2.2]] E [] (λw E' B'=>w=.tuple #[]/\B'=[]):=by
 refine Ax.enter Tryz.func43 rfl (d4 rfl) λQ e0 cs H cg ci=>?_;unfold KT at a9;refine JL.seq (JL.region ?_);refine JS.box (v:=.agg #[iV p0.1,iV p0.2.1,.slice a1 (p0.2.2).length c2]) rfl rfl rfl cg rfl λU ck=>A8 1 ck rfl λcm co ac cp=>?_;replace ac:At cm U 0 [iV p0.1,iV p0.2.1,.slice a1 (p0.2.2).length c2]:=ac;refine JS.box (v:=.agg #[iV p1.1,iV p1.2.1,iV p1.2.2.1,iV p1.2.2.2]) rfl rfl rfl cp rfl λO cq=>A8 2 cq rfl λcr ag ai ct=>?_;replace ai:At cr O 0 [iV p1.1,iV p1.2.1,iV p1.2.2.1,iV p1.2.2.2]:=ai;refine JL.done (JL.seq ?_);refine JL.region (Ac (v:=.pointer (some ⟨O,0,none⟩)) rfl rfl rfl (λρ h=>Aq (a:=⟨O,0,none⟩) 0 0 Tryz.underlying44 Aw rfl rfl rfl (h _ _ rfl)) ?_);refine Ac (v:=iV p1.1) rfl rfl rfl (λρ h=>Yl.load AD (h _ _ rfl) (At.AN (j:=0) ai rfl)) (Ac (v:=.pointer (some ⟨U,0,none⟩)) rfl rfl rfl (λρ h=>Aq (a:=⟨U,0,none⟩) 0 0 Tryz.underlying40 Aw rfl rfl rfl (h _ _ rfl)) ?_);refine Ac (v:=iV p0.1) rfl rfl rfl (λρ h=>Yl.load AD (h _ _ rfl) (At.AN (j:=0) (ac.Ag ag) rfl)) ?_;let⟨ba,cu,cw⟩:=bind_some a9;refine Ac (v:=iV ba) rfl rfl rfl (λρ h=>BP (h _ _ rfl) (h _ _ rfl) cu) ?_;let⟨cy,cz,cA⟩:=bind_some cw;refine JS.call (vs:=[iV p1.1,iV 0,iV ba]) (Gz cz) rfl rfl rfl Gt rfl ct ?_;rintro _ e1 _ V ⟨rfl,rfl⟩ cB;refine AT (S':=[[],[],[],[]]) rfl cB λcC=>?_;let⟨e3,cD,cE⟩:=bind_some cA;refine JS.call (vs:=[.bool cy,iV 3]) (Fa cD) rfl rfl rfl EX rfl cC ?_;rintro _ e4 _ Y ⟨rfl,rfl⟩ cF;refine JL.done (JL.seq ?_);refine JL.region (Ac (v:=.agg #[iV p1.1,iV p1.2.1,iV p1.2.2.1,iV p1.2.2.2]) rfl rfl rfl (λρ h=>Bm (vs:=[iV p1.1,iV p1.2.1,iV p1.2.2.1,iV p1.2.2.2]) J1 F5 (h _ _ rfl) (At.Cl (ai.Ag (V.trans Y)))) ?_);let⟨K,cG,cH⟩:=bind_some cE;refine JS.call (vs:=[.agg #[iV p1.1,iV p1.2.1,iV p1.2.2.1,iV p1.2.2.2]]) (Qn cG) rfl rfl rfl (A4 Tryz.func55 rfl) rfl cF ?_;rintro _ e5 _ Z ⟨rfl,rfl,e6⟩ cI;refine Ac (v:=BQ [(140,1),(141,1),(143,1),(144,1),(146,2),(148,2),(150,1)] K) rfl rfl rfl (λρ h=>Yl.assign (h _ _ rfl)) (JL.done ?_);refine JL.seq (JL.region ?_);refine Ac (v:=BQ [(140,1),(141,1),(143,1),(144,1),(146,2),(148,2),(150,1)] K) rfl rfl rfl (λρ h=>Yl.move (h _ _ rfl)) (Ac (v:=.bool (decide (K.1<7))) rfl rfl rfl (λρ h=>Sy (ts:=[(140,1),(141,1),(143,1),(144,1),(146,2),(148,2),(150,1)]) (q:=K) Tryz.underlying137 (h _ _ rfl) (h _ _ rfl)) ?_);let⟨e7,cJ,cK⟩:=bind_some cH;refine JS.call (vs:=[.bool (decide (K.1<7)),iV 8]) (Fa cJ) rfl rfl rfl EX rfl cI ?_;rintro _ aL _ aa ⟨rfl,rfl⟩ cM;refine AT (S':=[[],[],[],[],[],[],[]]) rfl cM λbb=>JL.done (JL.seq ?_);refine JL.seq (JL.region ?_);refine Ac (v:=BQ [(140,1),(141,1),(143,1),(144,1),(146,2),(148,2),(150,1)] K) rfl rfl rfl (λρ h=>Yl.move (h _ _ rfl)) (JL.done ?_);refine JL.block (JL.seq ?_);refine JL.region (Ac (v:=.tuple #[.agg #[iV (vF K 0 0)],.bool (decide (K.1=0))]) rfl rfl rfl (λρ h=>Ey (ts:=[(140,1),(141,1),(143,1),(144,1),(146,2),(148,2),(150,1)]) (c:=0) (k:=1) (q:=K) rfl Tryz.underlying140 Lh (by decide) (h _ _ rfl)) ?_);refine Ac (v:=.bool (decide (K.1=0))) rfl rfl rfl (λρ h=>Yl.extract (h _ _ rfl) rfl) (Ac (v:=.agg #[iV (vF K 0 0)]) rfl rfl rfl (λρ h=>Yl.extract (h _ _ rfl) rfl) ?_);refine Ac (v:=.tuple #[.agg #[iV (vF K 1 0)],.bool (decide (K.1=1))]) rfl rfl rfl (λρ h=>Ey (ts:=[(140,1),(141,1),(143,1),(144,1),(146,2),(148,2),(150,1)]) (c:=1) (k:=1) (q:=K) rfl Tryz.underlying141 Li (by decide) (h _ _ rfl)) (Ac (v:=.bool (decide (K.1=1))) rfl rfl rfl (λρ h=>Yl.extract (h _ _ rfl) rfl) ?_);refine Ac (v:=.agg #[iV (vF K 1 0)]) rfl rfl rfl (λρ h=>Yl.extract (h _ _ rfl) rfl) ?_;let⟨al,be,cN⟩:=bind_some cK;refine Dl [] (λL s=>∃(aj:LH),L=[(2,.pointer (some ⟨U,0,none⟩)),(3,.pointer (some ⟨O,0,none⟩)),(22,BQ [(140,1),(141,1),(143,1),(144,1),(146,2),(148,2),(150,1)] K),(29,.bool al)]/\s=Ae aj H []/\Le aL aj/\Ak aj H []) ?_ ?_;rintro _ _ ⟨aj,rfl,rfl,ab,aM⟩;refine JL.done ?_;let⟨aB,bf,cO⟩:=bind_some cN;refine Bj (λL s=>∃(aC:LH),L=[(3,.pointer (some ⟨O,0,none⟩))]/\s=Ae aC H []/\Le aj aC/\Ak aC H []) ?_ ?_;rintro _ _ ⟨aC,rfl,rfl,aN,cP⟩;refine Bv (JL.region ?_);refine Ac (v:=.pointer (some ⟨O,1,none⟩)) rfl rfl rfl (λρ h=>Aq (a:=⟨O,0,none⟩) 0 1 Tryz.underlying44 Aw rfl rfl rfl (h _ _ rfl)) (Ac (v:=iV p1.2.1) rfl rfl rfl (λρ h=>Yl.load AD (h _ _ rfl) (At.AN (j:=1) (ai.Ag (((((V.trans Y).trans Z).trans aa).trans ab).trans aN)) rfl)) ?_);let⟨aO,cQ,cR⟩:=bind_some cO;refine JS.call (vs:=[iV p1.2.1]) (Vy cQ) rfl rfl rfl (A4 Tryz.func56 rfl) rfl cP ?_;rintro _ aP _ bg ⟨rfl,rfl⟩ bh;refine Ac (v:=.bool (decide (1<aO))) rfl rfl rfl (λρ h=>Yl.gtr (h _ _ rfl) (h _ _ rfl)) (Ac (v:=.bool (decide (1<aO))) rfl rfl rfl (λρ h=>Yl.move (h _ _ rfl)) ?_);let⟨am,bi,cT⟩:=bind_some cR;refine Dl [9] (λL s=>∃(aD:LH),L=[(110,.bool am)]/\s=Ae aD H []/\Le aP aD/\Ak aD H []) ?_ ?_;rintro _ _ ⟨aD,rfl,rfl,cV,cW⟩;let⟨e8,cX,cY⟩:=bind_some cT;refine JS.call (vs:=[.bool am,iV 1]) (Fa cX) rfl rfl rfl EX rfl cW ?_;rintro _ e9 _ cZ ⟨rfl,rfl⟩ c0;refine JL.done ?_;have fa:r=():=(d0 cY).symm;subst r;exact JL.fin (v:=.tuple #[]) rfl rfl (Ay.list Tryz.func43 rfl (vs:=[]) trivial) (ci _ _ _ _ ((((((((((co.trans ag).trans V).trans Y).trans Z).trans aa).trans ab).trans aN).trans bg).trans cV).trans cZ) rfl ⟨rfl,rfl⟩ c0);intro bj;refine DW (q:=1<aO) (i:=106) rfl (λaQ=>?_) (λaQ=>?_);have bl:=bi;rw[d5 aQ] at bl;refine AP rfl rfl rfl ?_;refine AP rfl rfl rfl ?_;refine AP rfl rfl rfl ?_;refine Ac (v:=.bool true) rfl rfl rfl (λρ h=>Ci (h _ _ rfl) (h _ _ rfl)) ?_;have fb:am=true:=(d0 bl).symm;subst am;refine Ap ?_ (bj _ _ ⟨aP,rfl,rfl,(Le.refl _),bh⟩);exact⟨rfl,trivial⟩;have bm:=bi;rw[d7 aQ] at bm;refine Ac (v:=.pointer (some ⟨O,3,none⟩)) rfl rfl rfl (λρ h=>Aq (a:=⟨O,0,none⟩) 0 3 Tryz.underlying44 Aw rfl rfl rfl (h _ _ rfl)) ?_;refine Ac (v:=iV p1.2.2.2) rfl rfl rfl (λρ h=>Yl.load AD (h _ _ rfl) (At.AN (j:=3) (ai.Ag ((((((V.trans Y).trans Z).trans aa).trans ab).trans aN).trans bg)) rfl)) ?_;refine Ac (v:=.bool (decide (p1.2.2.2=0))) rfl rfl rfl (λρ h=>Yl.eql (h _ _ rfl) (h _ _ rfl)) ?_;refine Ac (v:=.bool (decide (p1.2.2.2=0))) rfl rfl rfl (λρ h=>CF (h _ _ rfl) (h _ _ rfl)) ?_;have fc:am=(decide (p1.2.2.2=0)):=(d0 bm).symm;subst am;refine Ap ?_ (bj _ _ ⟨aP,rfl,rfl,(Le.refl _),bh⟩);exact⟨rfl,trivial⟩;intro bn;refine CK (t:=al) rfl (λaR=>?_) (λaR=>?_);have bo:=bf;rw[d5 aR] at bo;refine JL.seq ?_;refine JL.region ?_;refine Ac (v:=BQ [(140,1),(141,1),(143,1),(144,1),(146,2),(148,2),(150,1)] K) rfl rfl rfl (λρ h=>Yl.assign (h _ _ rfl)) ?_;refine JL.done ?_;refine JL.region ?_;refine Ac (v:=.pointer (some ⟨O,2,none⟩)) rfl rfl rfl (λρ h=>Aq (a:=⟨O,0,none⟩) 0 2 Tryz.underlying44 Aw rfl rfl rfl (h _ _ rfl)) ?_;refine Ac (v:=iV p1.2.2.1) rfl rfl rfl (λρ h=>Yl.load AD (h _ _ rfl) (At.AN (j:=2) (ai.Ag ((((V.trans Y).trans Z).trans aa).trans ab)) rfl)) ?_;refine Ac (v:=.pointer (some ⟨U,1,none⟩)) rfl rfl rfl (λρ h=>Aq (a:=⟨U,0,none⟩) 0 1 Tryz.underlying40 Aw rfl rfl rfl (h _ _ rfl)) ?_;refine Ac (v:=iV p0.2.1) rfl rfl rfl (λρ h=>Yl.load AD (h _ _ rfl) (At.AN (j:=1) (ac.Ag (((((ag.trans V).trans Y).trans Z).trans aa).trans ab)) rfl)) ?_;let⟨bp,c3,c4⟩:=bind_some bo;refine Ac (v:=iV bp) rfl rfl rfl (λρ h=>BP (h _ _ rfl) (h _ _ rfl) c3) ?_;let⟨c5,c6,c7⟩:=bind_some c4;refine JS.call (vs:=[iV p1.2.2.1,iV 0,iV bp]) (Gz c6) rfl rfl rfl Gt rfl aM ?_;rintro _ fe _ c8 ⟨rfl,rfl⟩ c9;let⟨ff,da,db⟩:=bind_some c7;refine JS.call (vs:=[.bool c5,iV 3]) (Fa da) rfl rfl rfl EX rfl c9 ?_;rintro _ dc _ dd ⟨rfl,rfl⟩ de;refine JL.done ?_;have fg:aB=():=(d0 db).symm;subst aB;refine Ap ?_ (bn _ _ ⟨dc,rfl,rfl,(c8.trans dd),de⟩);exact⟨rfl,trivial⟩;have bq:=bf;rw[d7 (by rw[aR];exact f8)] at bq;refine JL.seq ?_;refine JL.region ?_;refine Ac (v:=.tuple #[.agg #[iV (vF K 2 0)],.bool (decide (K.1=2))]) rfl rfl rfl (λρ h=>Ey (ts:=[(140,1),(141,1),(143,1),(144,1),(146,2),(148,2),(150,1)]) (c:=2) (k:=1) (q:=K) rfl Tryz.underlying143 Lf (by decide) (h _ _ rfl)) ?_;refine Ac (v:=.bool (decide (K.1=2))) rfl rfl rfl (λρ h=>Yl.extract (h _ _ rfl) rfl) ?_;refine Ac (v:=.agg #[iV (vF K 2 0)]) rfl rfl rfl (λρ h=>Yl.extract (h _ _ rfl) rfl) ?_;refine Ac (v:=.tuple #[.agg #[iV (vF K 3 0)],.bool (decide (K.1=3))]) rfl rfl rfl (λρ h=>Ey (ts:=[(140,1),(141,1),(143,1),(144,1),(146,2),(148,2),(150,1)]) (c:=3) (k:=1) (q:=K) rfl Tryz.underlying144 Lg (by decide) (h _ _ rfl)) ?_;refine Ac (v:=.bool (decide (K.1=3))) rfl rfl rfl (λρ h=>Yl.extract (h _ _ rfl) rfl) ?_;refine Ac (v:=.agg #[iV (vF K 3 0)]) rfl rfl rfl (λρ h=>Yl.extract (h _ _ rfl) rfl) ?_;let⟨an,br,df⟩:=bind_some bq;refine Dl [] (λL s=>∃(ah:LH),L=[(2,.pointer (some ⟨U,0,none⟩)),(3,.pointer (some ⟨O,0,none⟩)),(22,BQ [(140,1),(141,1),(143,1),(144,1),(146,2),(148,2),(150,1)] K),(43,.bool an)]/\s=Ae ah H []/\Le aj ah/\Ak ah H []) ?_ ?_;rintro _ _ ⟨ah,rfl,rfl,ak,ar⟩;refine JL.done ?_;let⟨aE,bu,dg⟩:=bind_some df;refine Bj (λL s=>∃(au:LH),L=[(3,.pointer (some ⟨O,0,none⟩))]/\s=Ae au H []/\Le ah au/\Ak au H []) ?_ ?_;rintro _ _ ⟨au,rfl,rfl,dh,di⟩;have fh:aB=():=(d0 dg).symm;subst aB;refine Ap ?_ (bn _ _ ⟨au,rfl,rfl,(ak.trans dh),di⟩);exact⟨rfl,trivial⟩;intro bv;refine CK (t:=an) rfl (λaS=>?_) (λaS=>?_);have bw:=bu;rw[d5 aS] at bw;refine JL.seq ?_;refine JL.region ?_;refine Ac (v:=BQ [(140,1),(141,1),(143,1),(144,1),(146,2),(148,2),(150,1)] K) rfl rfl rfl (λρ h=>Yl.assign (h _ _ rfl)) ?_;refine JL.done ?_;refine JL.region ?_;refine Ac (v:=.pointer (some ⟨O,2,none⟩)) rfl rfl rfl (λρ h=>Aq (a:=⟨O,0,none⟩) 0 2 Tryz.underlying44 Aw rfl rfl rfl (h _ _ rfl)) ?_;refine Ac (v:=iV p1.2.2.1) rfl rfl rfl (λρ h=>Yl.load AD (h _ _ rfl) (At.AN (j:=2) (ai.Ag (((((V.trans Y).trans Z).trans aa).trans ab).trans ak)) rfl)) ?_;refine Ac (v:=.pointer (some ⟨U,0,none⟩)) rfl rfl rfl (λρ h=>Aq (a:=⟨U,0,none⟩) 0 0 Tryz.underlying40 Aw rfl rfl rfl (h _ _ rfl)) ?_;refine Ac (v:=iV p0.1) rfl rfl rfl (λρ h=>Yl.load AD (h _ _ rfl) (At.AN (j:=0) (ac.Ag ((((((ag.trans V).trans Y).trans Z).trans aa).trans ab).trans ak)) rfl)) ?_;let⟨bx,dj,dk⟩:=bind_some bw;refine Ac (v:=iV bx) rfl rfl rfl (λρ h=>BP (h _ _ rfl) (h _ _ rfl) dj) ?_;let⟨dm,dn,dp⟩:=bind_some dk;refine JS.call (vs:=[iV p1.2.2.1,iV 0,iV bx]) (Gz dn) rfl rfl rfl Gt rfl ar ?_;rintro _ fj _ dq ⟨rfl,rfl⟩ dr;let⟨fk,dt,du⟩:=bind_some dp;refine JS.call (vs:=[.bool dm,iV 3]) (Fa dt) rfl rfl rfl EX rfl dr ?_;rintro _ dv _ dw ⟨rfl,rfl⟩ dx;refine JL.done ?_;have fl:aE=():=(d0 du).symm;subst aE;refine Ap ?_ (bv _ _ ⟨dv,rfl,rfl,(dq.trans dw),dx⟩);exact⟨rfl,trivial⟩;have bz:=bu;rw[d7 (by rw[aS];exact f8)] at bz;refine JL.seq ?_;refine JL.region ?_;refine Ac (v:=.tuple #[.agg #[iV (vF K 4 0),iV (vF K 4 1)],.bool (decide (K.1=4))]) rfl rfl rfl (λρ h=>Ey (ts:=[(140,1),(141,1),(143,1),(144,1),(146,2),(148,2),(150,1)]) (c:=4) (k:=2) (q:=K) rfl Tryz.underlying146 J3 (by decide) (h _ _ rfl)) ?_;refine Ac (v:=.bool (decide (K.1=4))) rfl rfl rfl (λρ h=>Yl.extract (h _ _ rfl) rfl) ?_;refine Ac (v:=.agg #[iV (vF K 4 0),iV (vF K 4 1)]) rfl rfl rfl (λρ h=>Yl.extract (h _ _ rfl) rfl) ?_;refine JL.done ?_;let⟨aF,bA,dy⟩:=bind_some bz;refine Bj (λL s=>∃(av:LH),L=[(3,.pointer (some ⟨O,0,none⟩))]/\s=Ae av H []/\Le ah av/\Ak av H []) ?_ ?_;rintro _ _ ⟨av,rfl,rfl,dz,dA⟩;have fm:aE=():=(d0 dy).symm;subst aE;refine Ap ?_ (bv _ _ ⟨av,rfl,rfl,dz,dA⟩);exact⟨rfl,trivial⟩;intro bB;refine AU (p:=K.1=4) rfl (λaT=>?_) (λaT=>?_);have bC:=bA;rw[d5 aT] at bC;refine JL.seq ?_;refine JL.region ?_;refine JS.alloc rfl rfl rfl ar J3 λaw dB=>?_;refine JS.store (v:=.agg #[iV (vF K 4 0),iV (vF K 4 1)]) (off:=0) 0 rfl rfl rfl dB rfl rfl (AB Tryz.type146) (by simp[Value.cells,A3]) rfl (d4 rfl) λdC=>?_;refine A8 0 dC rfl λdD aU aG dE=>?_;replace aG:At dD aw 0 [iV (vF K 4 0),iV (vF K 4 1)]:=aG;refine JL.done ?_;refine JL.region ?_;refine Ac (v:=.pointer (some ⟨aw,0,none⟩)) rfl rfl rfl (λρ h=>Aq (a:=⟨aw,0,none⟩) 0 0 Tryz.underlying146 Aw rfl rfl rfl (h _ _ rfl)) ?_;refine Ac (v:=iV (vF K 4 0)) rfl rfl rfl (λρ h=>Yl.load AD (h _ _ rfl) (At.AN (j:=0) aG rfl)) ?_;refine Ac (v:=.pointer (some ⟨U,1,none⟩)) rfl rfl rfl (λρ h=>Aq (a:=⟨U,0,none⟩) 0 1 Tryz.underlying40 Aw rfl rfl rfl (h _ _ rfl)) ?_;refine Ac (v:=iV p0.2.1) rfl rfl rfl (λρ h=>Yl.load AD (h _ _ rfl) (At.AN (j:=1) (ac.Ag (((((((ag.trans V).trans Y).trans Z).trans aa).trans ab).trans ak).trans aU)) rfl)) ?_;let⟨bD,dF,dG⟩:=bind_some bC;refine Ac (v:=iV bD) rfl rfl rfl (λρ h=>BP (h _ _ rfl) (h _ _ rfl) dF) ?_;let⟨bE,dH,dI⟩:=bind_some dG;refine JS.call (vs:=[iV (vF K 4 0),iV 0,iV bD]) (Gz dH) rfl rfl rfl Gt rfl dE ?_;rintro _ bF _ aV ⟨rfl,rfl⟩ dJ;refine AT (S':=[[],[]]) rfl dJ λbG=>?_;refine Ac (v:=.bool bE) rfl rfl rfl (λρ h=>Yl.move (h _ _ rfl)) ?_;let⟨ao,bH,dK⟩:=bind_some dI;refine Dl [14] (λL s=>∃(aH:LH),L=[(3,.pointer (some ⟨O,0,none⟩)),(67,.bool ao)]/\s=Ae aH H []/\Le bF aH/\Ak aH H []) ?_ ?_;rintro _ _ ⟨aH,rfl,rfl,dL,dM⟩;let⟨fo,dN,dO⟩:=bind_some dK;refine JS.call (vs:=[.bool ao,iV 3]) (Fa dN) rfl rfl rfl EX rfl dM ?_;rintro _ dP _ dQ ⟨rfl,rfl⟩ dR;refine JL.done ?_;have fp:aF=():=(d0 dO).symm;subst aF;refine Ap ?_ (bB _ _ ⟨dP,rfl,rfl,(((aU.trans aV).trans dL).trans dQ),dR⟩);exact⟨rfl,trivial⟩;intro bI;refine EY (c:=bE) (i:=60) rfl (λaW=>?_) (λaW=>?_);have bJ:=bH;rw[d5 aW] at bJ;refine Ac (v:=.pointer (some ⟨aw,1,none⟩)) rfl rfl rfl (λρ h=>Aq (a:=⟨aw,0,none⟩) 0 1 Tryz.underlying146 Aw rfl rfl rfl (h _ _ rfl)) ?_;refine Ac (v:=iV (vF K 4 1)) rfl rfl rfl (λρ h=>Yl.load AD (h _ _ rfl) (At.AN (j:=1) (aG.Ag aV) rfl)) ?_;refine Ac (v:=.pointer (some ⟨U,1,none⟩)) rfl rfl rfl (λρ h=>Aq (a:=⟨U,0,none⟩) 0 1 Tryz.underlying40 Aw rfl rfl rfl (h _ _ rfl)) ?_;refine Ac (v:=iV p0.2.1) rfl rfl rfl (λρ h=>Yl.load AD (h _ _ rfl) (At.AN (j:=1) (ac.Ag ((((((((ag.trans V).trans Y).trans Z).trans aa).trans ab).trans ak).trans aU).trans aV)) rfl)) ?_;let⟨bK,dS,dT⟩:=bind_some bJ;refine Ac (v:=iV bK) rfl rfl rfl (λρ h=>BP (h _ _ rfl) (h _ _ rfl) dS) ?_;obtain⟨bL,dU,dV⟩:=bind_some dT;refine JS.call (vs:=[iV (vF K 4 1),iV 0,iV bK]) (Gz dU) rfl rfl rfl Gt rfl bG ?_;rintro _ dW _ dX ⟨rfl,rfl⟩ dY;refine Ac (v:=.bool bL) rfl rfl rfl (λρ h=>Ci (h _ _ rfl) (h _ _ rfl)) ?_;have fq:ao=bL:=(d0 dV).symm;subst ao;refine Ap ?_ (bI _ _ ⟨dW,rfl,rfl,dX,dY⟩);exact⟨rfl,rfl,trivial⟩;have bM:=bH;rw[d7 (by rw[aW];exact f8)] at bM;refine AP rfl rfl rfl ?_;refine AP rfl rfl rfl ?_;refine AP rfl rfl rfl ?_;refine AP rfl rfl rfl ?_;refine AP rfl rfl rfl ?_;refine AP rfl rfl rfl ?_;refine Ac (v:=.bool false) rfl rfl rfl (λρ h=>CF (h _ _ rfl) (h _ _ rfl)) ?_;have fs:ao=false:=(d0 bM).symm;subst ao;refine Ap ?_ (bI _ _ ⟨bF,rfl,rfl,(Le.refl _),bG⟩);exact⟨rfl,rfl,trivial⟩;have bN:=bA;rw[d7 aT] at bN;refine JL.seq ?_;refine JL.region ?_;refine Ac (v:=.tuple #[.agg #[iV (vF K 5 0),iV (vF K 5 1)],.bool (decide (K.1=5))]) rfl rfl rfl (λρ h=>Ey (ts:=[(140,1),(141,1),(143,1),(144,1),(146,2),(148,2),(150,1)]) (c:=5) (k:=2) (q:=K) rfl Tryz.underlying148 J2 (by decide) (h _ _ rfl)) ?_;refine Ac (v:=.bool (decide (K.1=5))) rfl rfl rfl (λρ h=>Yl.extract (h _ _ rfl) rfl) ?_;refine Ac (v:=.agg #[iV (vF K 5 0),iV (vF K 5 1)]) rfl rfl rfl (λρ h=>Yl.extract (h _ _ rfl) rfl) ?_;refine JL.done ?_;let⟨aI,bO,dZ⟩:=bind_some bN;refine Bj (λL s=>∃(ay:LH),L=[(3,.pointer (some ⟨O,0,none⟩))]/\s=Ae ay H []/\Le ah ay/\Ak ay H []) ?_ ?_;rintro _ _ ⟨ay,rfl,rfl,ea,eb⟩;have fu:aF=():=(d0 dZ).symm;subst aF;refine Ap ?_ (bB _ _ ⟨ay,rfl,rfl,ea,eb⟩);exact⟨rfl,trivial⟩;intro bP;refine AU (p:=K.1=5) rfl (λaX=>?_) (λaX=>?_);have bQ:=bO;rw[d5 aX] at bQ;refine JL.seq ?_;refine JL.region ?_;refine JS.alloc rfl rfl rfl ar J2 λae ec=>?_;refine JS.store (v:=.agg #[iV (vF K 5 0),iV (vF K 5 1)]) (off:=0) 0 rfl rfl rfl ec rfl rfl (AB Tryz.type148) (by simp[Value.cells,A3]) rfl (d4 rfl) λed=>?_;refine A8 0 ed rfl λee aY ap ef=>?_;replace ap:At ee ae 0 [iV (vF K 5 0),iV (vF K 5 1)]:=ap;refine JL.done ?_;refine JL.seq ?_;refine JL.region ?_;refine Ac (v:=.pointer (some ⟨ae,0,none⟩)) rfl rfl rfl (λρ h=>Aq (a:=⟨ae,0,none⟩) 0 0 Tryz.underlying148 Aw rfl rfl rfl (h _ _ rfl)) ?_;refine Ac (v:=iV (vF K 5 0)) rfl rfl rfl (λρ h=>Yl.load AD (h _ _ rfl) (At.AN (j:=0) ap rfl)) ?_;refine Ac (v:=.pointer (some ⟨U,0,none⟩)) rfl rfl rfl (λρ h=>Aq (a:=⟨U,0,none⟩) 0 0 Tryz.underlying40 Aw rfl rfl rfl (h _ _ rfl)) ?_;refine Ac (v:=iV p0.1) rfl rfl rfl (λρ h=>Yl.load AD (h _ _ rfl) (At.AN (j:=0) (ac.Ag (((((((ag.trans V).trans Y).trans Z).trans aa).trans ab).trans ak).trans aY)) rfl)) ?_;let⟨bR,eg,eh⟩:=bind_some bQ;refine Ac (v:=iV bR) rfl rfl rfl (λρ h=>BP (h _ _ rfl) (h _ _ rfl) eg) ?_;let⟨bS,ei,ej⟩:=bind_some eh;refine JS.call (vs:=[iV (vF K 5 0),iV 0,iV bR]) (Gz ei) rfl rfl rfl Gt rfl ef ?_;rintro _ bT _ az ⟨rfl,rfl⟩ ek;refine AT (S':=[[],[]]) rfl ek λbU=>?_;refine Ac (v:=.bool bS) rfl rfl rfl (λρ h=>Yl.move (h _ _ rfl)) ?_;obtain⟨aq,bV,el⟩:=bind_some ej;refine Dl [14] (λL s=>∃(aJ:LH),L=[(3,.pointer (some ⟨O,0,none⟩)),(8,.pointer (some ⟨ae,0,none⟩)),(85,.bool aq)]/\s=Ae aJ H []/\Le bT aJ/\Ak aJ H []) ?_ ?_;rintro _ _ ⟨aJ,rfl,rfl,aZ,en⟩;let⟨fv,eo,ep⟩:=bind_some el;refine JS.call (vs:=[.bool aq,iV 3]) (Fa eo) rfl rfl rfl EX rfl en ?_;rintro _ fw _ a2 ⟨rfl,rfl⟩ er;refine JL.done (JL.region ?_);refine Ac (v:=.pointer (some ⟨ae,0,none⟩)) rfl rfl rfl (λρ h=>Aq (a:=⟨ae,0,none⟩) 0 0 Tryz.underlying148 Aw rfl rfl rfl (h _ _ rfl)) (Ac (v:=iV (vF K 5 0)) rfl rfl rfl (λρ h=>Yl.load AD (h _ _ rfl) (At.AN (j:=0) (ap.Ag ((az.trans aZ).trans a2)) rfl)) ?_);refine Ac (v:=.pointer (some ⟨ae,1,none⟩)) rfl rfl rfl (λρ h=>Aq (a:=⟨ae,0,none⟩) 0 1 Tryz.underlying148 Aw rfl rfl rfl (h _ _ rfl)) (Ac (v:=iV (vF K 5 1)) rfl rfl rfl (λρ h=>Yl.load AD (h _ _ rfl) (At.AN (j:=1) (ap.Ag ((az.trans aZ).trans a2)) rfl)) ?_);refine Ac (v:=.bool (decide ((vF K 5 0)<(vF K 5 1)))) rfl rfl rfl (λρ h=>Yl.lss (h _ _ rfl) (h _ _ rfl)) ?_;let⟨fx,et,eu⟩:=bind_some ep;refine JS.call (vs:=[.bool (decide ((vF K 5 0)<(vF K 5 1))),iV 5]) (Fa et) rfl rfl rfl EX rfl er ?_;rintro _ ew _ ey ⟨rfl,rfl⟩ ez;refine JL.done ?_;have fy:aI=():=(d0 eu).symm;subst aI;refine Ap ?_ (bP _ _ ⟨ew,rfl,rfl,((((aY.trans az).trans aZ).trans a2).trans ey),ez⟩);exact⟨rfl,trivial⟩;intro bW;refine EY (c:=bS) (i:=78) rfl (λa3=>?_) (λa3=>?_);have bX:=bV;rw[d5 a3] at bX;refine Ac (v:=.pointer (some ⟨ae,1,none⟩)) rfl rfl rfl (λρ h=>Aq (a:=⟨ae,0,none⟩) 0 1 Tryz.underlying148 Aw rfl rfl rfl (h _ _ rfl)) ?_;refine Ac (v:=iV (vF K 5 1)) rfl rfl rfl (λρ h=>Yl.load AD (h _ _ rfl) (At.AN (j:=1) (ap.Ag az) rfl)) ?_;refine Ac (v:=.pointer (some ⟨U,0,none⟩)) rfl rfl rfl (λρ h=>Aq (a:=⟨U,0,none⟩) 0 0 Tryz.underlying40 Aw rfl rfl rfl (h _ _ rfl)) ?_;refine Ac (v:=iV p0.1) rfl rfl rfl (λρ h=>Yl.load AD (h _ _ rfl) (At.AN (j:=0) (ac.Ag ((((((((ag.trans V).trans Y).trans Z).trans aa).trans ab).trans ak).trans aY).trans az)) rfl)) ?_;let⟨bY,eA,eB⟩:=bind_some bX;refine Ac (v:=iV bY) rfl rfl rfl (λρ h=>BP (h _ _ rfl) (h _ _ rfl) eA) ?_;let⟨bZ,eC,eD⟩:=bind_some eB;refine JS.call (vs:=[iV (vF K 5 1),iV 0,iV bY]) (Gz eC) rfl rfl rfl Gt rfl bU ?_;rintro _ eE _ eF ⟨rfl,rfl⟩ eG;refine Ac (v:=.bool bZ) rfl rfl rfl (λρ h=>Ci (h _ _ rfl) (h _ _ rfl)) ?_;have fz:aq=bZ:=(d0 eD).symm;subst aq;refine Ap ?_ (bW _ _ ⟨eE,rfl,rfl,eF,eG⟩);exact⟨rfl,rfl,rfl,trivial⟩;have b2:=bV;rw[d7 (by rw[a3];exact f8)] at b2;refine AP rfl rfl rfl ?_;refine AP rfl rfl rfl ?_;refine AP rfl rfl rfl ?_;refine AP rfl rfl rfl ?_;refine AP rfl rfl rfl ?_;refine AP rfl rfl rfl ?_;refine Ac (v:=.bool false) rfl rfl rfl (λρ h=>CF (h _ _ rfl) (h _ _ rfl)) ?_;have fA:aq=false:=(d0 b2).symm;subst aq;refine Ap ?_ (bW _ _ ⟨bT,rfl,rfl,(Le.refl _),bU⟩);exact⟨rfl,rfl,rfl,trivial⟩;have b3:=bO;rw[d7 aX] at b3;refine JL.seq ?_;refine JL.region ?_;refine Ac (v:=.tuple #[.agg #[iV (vF K 6 0)],.bool (decide (K.1=6))]) rfl rfl rfl (λρ h=>Ey (ts:=[(140,1),(141,1),(143,1),(144,1),(146,2),(148,2),(150,1)]) (c:=6) (k:=1) (q:=K) rfl Tryz.underlying150 J6 (by decide) (h _ _ rfl)) ?_;refine Ac (v:=.bool (decide (K.1=6))) rfl rfl rfl (λρ h=>Yl.extract (h _ _ rfl) rfl) ?_;refine Ac (v:=.agg #[iV (vF K 6 0)]) rfl rfl rfl (λρ h=>Yl.extract (h _ _ rfl) rfl) ?_;refine JL.done ?_;let⟨aK,b4,eH⟩:=bind_some b3;refine Bj (λL s=>∃(aA:LH),L=[(3,.pointer (some ⟨O,0,none⟩))]/\s=Ae aA H []/\Le ah aA/\Ak aA H []) ?_ ?_;rintro _ _ ⟨aA,rfl,rfl,eI,eJ⟩;have fB:aI=():=(d0 eH).symm;subst aI;refine Ap ?_ (bP _ _ ⟨aA,rfl,rfl,eI,eJ⟩);exact⟨rfl,trivial⟩;intro b5;refine AU (p:=K.1=6) rfl (λa4=>?_) (λa4=>?_);have b6:=b4;rw[d5 a4] at b6;refine JL.seq ?_;refine JL.region ?_;refine JS.alloc rfl rfl rfl ar J6 λa5 eK=>?_;refine JS.store (v:=.agg #[iV (vF K 6 0)]) (off:=0) 0 rfl rfl rfl eK rfl rfl (AB Tryz.type150) (by simp[Value.cells,A3]) rfl (d4 rfl) λeL=>?_;refine A8 0 eL rfl λeM b7 a6 eN=>?_;replace a6:At eM a5 0 [iV (vF K 6 0)]:=a6;refine JL.done ?_;refine JL.region ?_;refine Ac (v:=.pointer (some ⟨a5,0,none⟩)) rfl rfl rfl (λρ h=>Aq (a:=⟨a5,0,none⟩) 0 0 Tryz.underlying150 Aw rfl rfl rfl (h _ _ rfl)) ?_;refine Ac (v:=iV (vF K 6 0)) rfl rfl rfl (λρ h=>Yl.load AD (h _ _ rfl) (At.AN (j:=0) a6 rfl)) ?_;refine Ac (v:=.pointer (some ⟨U,0,none⟩)) rfl rfl rfl (λρ h=>Aq (a:=⟨U,0,none⟩) 0 0 Tryz.underlying40 Aw rfl rfl rfl (h _ _ rfl)) ?_;refine Ac (v:=iV p0.1) rfl rfl rfl (λρ h=>Yl.load AD (h _ _ rfl) (At.AN (j:=0) (ac.Ag (((((((ag.trans V).trans Y).trans Z).trans aa).trans ab).trans ak).trans b7)) rfl)) ?_;let⟨eO,eP,eQ⟩:=bind_some b6;refine JS.call (vs:=[iV (vF K 6 0),iV 0,iV p0.1]) (Gz eP) rfl rfl rfl Gt rfl eN ?_;rintro _ fC _ eR ⟨rfl,rfl⟩ eS;refine AT (S':=[[],[]]) rfl eS λeT=>?_;obtain⟨fD,eU,eV⟩:=bind_some eQ;refine JS.call (vs:=[.bool eO,iV 1]) (Fa eU) rfl rfl rfl EX rfl eT ?_;rintro _ eW _ eX ⟨rfl,rfl⟩ eY;refine JL.done ?_;have fE:aK=():=(d0 eV).symm;subst aK;refine Ap ?_ (b5 _ _ ⟨eW,rfl,rfl,((b7.trans eR).trans eX),eY⟩);exact⟨rfl,trivial⟩;have b8:=b4;rw[d7 a4] at b8;refine JL.skip ?_;have fF:aK=():=(d0 b8).symm;subst aK;refine Ap ?_ (b5 _ _ ⟨ah,rfl,rfl,(Le.refl _),ar⟩);exact⟨rfl,trivial⟩;intro b9;refine DW (q:=K.1=2) (i:=38) rfl (λa7=>?_) (λa7=>?_);have ca:=br;rw[d5 a7] at ca;refine Ac (v:=.bool true) rfl rfl rfl (λρ h=>Ci (h _ _ rfl) (h _ _ rfl)) ?_;have fG:an=true:=(d0 ca).symm;subst an;refine Ap ?_ (b9 _ _ ⟨aj,rfl,rfl,(Le.refl _),aM⟩);exact⟨rfl,rfl,rfl,rfl,trivial⟩;have cb:=br;rw[d7 a7] at cb;refine Ac (v:=.bool (decide (K.1=3))) rfl rfl rfl (λρ h=>CF (h _ _ rfl) (h _ _ rfl)) ?_;have fH:an=(decide (K.1=3)):=(d0 cb).symm;subst an;refine Ap ?_ (b9 _ _ ⟨aj,rfl,rfl,(Le.refl _),aM⟩);exact⟨rfl,rfl,rfl,rfl,trivial⟩;intro cc;refine DW (q:=K.1=0) (i:=24) rfl (λa8=>?_) (λa8=>?_);have cd:=be;rw[d5 a8] at cd;refine Ac (v:=.bool true) rfl rfl rfl (λρ h=>Ci (h _ _ rfl) (h _ _ rfl)) ?_;have fI:al=true:=(d0 cd).symm;subst al;refine Ap ?_ (cc _ _ ⟨aL,rfl,rfl,(Le.refl _),bb⟩);exact⟨rfl,rfl,rfl,rfl,trivial⟩;have ce:=be;rw[d7 a8] at ce;refine Ac (v:=.bool (decide (K.1=1))) rfl rfl rfl (λρ h=>CF (h _ _ rfl) (h _ _ rfl)) ?_;have fJ:al=(decide (K.1=1)):=(d0 ce).symm;subst al;refine Ap ?_ (cc _ _ ⟨aL,rfl,rfl,(Le.refl _),bb⟩);exact⟨rfl,rfl,rfl,rfl,trivial⟩
def Nz(fuel:Nat)(p0:Int×Int×(List (Int×Int×Int×Int)))(K:Int):Option (BX (Int) (Unit)):=
 if K<((p0.2.2).length:Int) then(
  (ix p0.2.2 (K)).bind λO=>
  (KT fuel p0 O).bind λV=>
  (AR (K+1)).bind λU=>
  some (.more U)
 ) else(
  some (.done ())
 )
def Mr(fuel:Nat)(p0:Int×Int×(List (Int×Int×Int×Int))):Option (Unit):=
 (Fb fuel p0.1 1 4).bind λK=>
 (EM fuel K 1).bind λU=>
 (Fb fuel p0.2.1 0 3).bind λO=>
 (EM fuel O 1).bind λV=>
 (EM fuel (decide (((p0.2.2).length:Int)<=8)) 6).bind λY=>
 Option.bind (iter (Nz fuel p0) fuel 0) λZ=>
 some ()
theorem UL(au:AK (rP rI (rP rI (rP rI rI))) E a1 c2 (p0.2.2)){r:Unit}(av:Mr fuel p0=some r):Ax J 37 [.agg #[iV p0.1,iV p0.2.1,.slice a1 (p0.2.2).length c2]] E [] (λw E' B'=>w=.tuple #[]/\B'=[]):=by
 refine Ax.enter Tryz.func37 rfl (d4 rfl) λQ bu cs H aB aC=>?_;unfold Mr at av;refine JL.seq (JL.region ?_);refine JS.box (v:=.agg #[iV p0.1,iV p0.2.1,.slice a1 (p0.2.2).length c2]) rfl rfl rfl aB rfl λO aD=>A8 1 aD rfl λaE ak U aF=>?_;replace U:At aE O 0 [iV p0.1,iV p0.2.1,.slice a1 (p0.2.2).length c2]:=U;refine JL.done (JL.seq ?_);refine JL.region (Ac (v:=.pointer (some ⟨O,0,none⟩)) rfl rfl rfl (λρ h=>Aq (a:=⟨O,0,none⟩) 0 0 Tryz.underlying40 Aw rfl rfl rfl (h _ _ rfl)) ?_);refine Ac (v:=iV p0.1) rfl rfl rfl (λρ h=>Yl.load AD (h _ _ rfl) (At.AN (j:=0) U rfl)) ?_;let⟨aG,aH,aI⟩:=bind_some av;refine JS.call (vs:=[iV p0.1,iV 1,iV 4]) (Gz aH) rfl rfl rfl Gt rfl aF ?_;rintro _ bv _ V ⟨rfl,rfl⟩ aJ;let⟨bw,aK,aL⟩:=bind_some aI;refine JS.call (vs:=[.bool aG,iV 1]) (Fa aK) rfl rfl rfl EX rfl aJ ?_;rintro _ bx _ Y ⟨rfl,rfl⟩ aM;refine AT (S':=[[],[],[],[]]) rfl aM λaN=>JL.done (JL.seq ?_);refine JL.region (Ac (v:=.pointer (some ⟨O,1,none⟩)) rfl rfl rfl (λρ h=>Aq (a:=⟨O,0,none⟩) 0 1 Tryz.underlying40 Aw rfl rfl rfl (h _ _ rfl)) ?_);refine Ac (v:=iV p0.2.1) rfl rfl rfl (λρ h=>Yl.load AD (h _ _ rfl) (At.AN (j:=1) (U.Ag (V.trans Y)) rfl)) ?_;let⟨aO,aP,aQ⟩:=bind_some aL;refine JS.call (vs:=[iV p0.2.1,iV 0,iV 3]) (Gz aP) rfl rfl rfl Gt rfl aN ?_;rintro _ bz _ Z ⟨rfl,rfl⟩ aR;let⟨bA,aS,aT⟩:=bind_some aQ;refine JS.call (vs:=[.bool aO,iV 1]) (Fa aS) rfl rfl rfl EX rfl aR ?_;rintro _ bB _ aa ⟨rfl,rfl⟩ aU;refine JL.done (JL.seq ?_);refine JL.region (Ac (v:=.pointer (some ⟨O,2,none⟩)) rfl rfl rfl (λρ h=>Aq (a:=⟨O,0,none⟩) 0 2 Tryz.underlying40 IY rfl rfl rfl (h _ _ rfl)) ?_);refine Ac (v:=.slice a1 (p0.2.2).length c2) rfl rfl rfl (λρ h=>Yl.load Lc (h _ _ rfl) (At.AN (j:=2) (U.Ag (((V.trans Y).trans Z).trans aa)) rfl)) (Ac (v:=iV ((p0.2.2).length:Int)) rfl rfl rfl (λρ h=>Yl.len rfl Tryz.underlying38 (h _ _ rfl)) ?_);refine Ac (v:=.bool (decide (((p0.2.2).length:Int)<=8))) rfl rfl rfl (λρ h=>Yl.leq (h _ _ rfl) (h _ _ rfl)) ?_;obtain⟨bC,aV,aW⟩:=bind_some aT;refine JS.call (vs:=[.bool (decide (((p0.2.2).length:Int)<=8)),iV 6]) (Fa aV) rfl rfl rfl EX rfl aU ?_;rintro _ al _ ac ⟨rfl,rfl⟩ aX;refine AT (S':=[[],[],[],[],[],[],[]]) rfl aX λaY=>JL.done (JL.seq ?_);refine JL.region (Ac (v:=.pointer (some ⟨O,2,none⟩)) rfl rfl rfl (λρ h=>Aq (a:=⟨O,0,none⟩) 0 2 Tryz.underlying40 IY rfl rfl rfl (h _ _ rfl)) ?_);refine Ac (v:=.slice a1 (p0.2.2).length c2) rfl rfl rfl (λρ h=>Yl.load Lc (h _ _ rfl) (At.AN (j:=2) (U.Ag ((((V.trans Y).trans Z).trans aa).trans ac)) rfl)) (Ac (v:=iV ((p0.2.2).length:Int)) rfl rfl rfl (λρ h=>Yl.len rfl Tryz.underlying38 (h _ _ rfl)) ?_);refine Ac (v:=iV 0) rfl rfl rfl (λρ h=>Yl.move (h _ _ rfl)) (JL.done ?_);let⟨aw,aZ,a2⟩:=bind_some aW;refine Bj (λL s=>∃(ag:LH),L=[]/\s=Ae ag H []/\Le al ag/\Ak ag H []) ?_ ?_;rintro _ _ ⟨ag,rfl,rfl,a3,a4⟩;have bD:r=():=(d0 a2).symm;subst r;exact JL.fin (v:=.tuple #[]) rfl rfl (Ay.list Tryz.func37 rfl (vs:=[]) trivial) (aC _ _ _ _ ((((((ak.trans V).trans Y).trans Z).trans aa).trans ac).trans a3) rfl ⟨rfl,rfl⟩ a4);intro a5;refine JL.block (Ap (L':=[(1,.pointer (some ⟨O,0,none⟩)),(18,.slice a1 (p0.2.2).length c2),(19,iV ((p0.2.2).length:Int)),(20,iV 0)]) ⟨rfl,rfl,rfl,rfl,trivial⟩ ?_);refine CG aZ (λL s ah=>∃(ab:LH),L=[(1,.pointer (some ⟨O,0,none⟩)),(18,.slice a1 (p0.2.2).length c2),(19,iV ((p0.2.2).length:Int)),(20,iV ah)]/\s=Ae ab H []/\Le al ab/\Ak ab H []) ⟨al,rfl,rfl,(Le.refl _),aY⟩ ?_;rintro _ _ ah ⟨ab,rfl,rfl,ae,ay⟩ a6 ⟨ai,am⟩ a7;have an:=am;unfold Nz at an;refine JL.seq (JL.region ?_);refine Ac (v:=.bool (decide (ah<((p0.2.2).length:Int)))) rfl rfl rfl (λρ h=>Yl.lss (h _ _ rfl) (h _ _ rfl)) (JL.done ?_);refine JL.seq (AU (p:=ah<((p0.2.2).length:Int)) rfl (λao=>?_) (λao=>?_));have az:=an;rw[d5 ao] at az;refine JL.skip ?_;refine JL.seq ?_;refine JL.block ?_;refine JL.seq ?_;refine JL.region ?_;let⟨K,a8,a9⟩:=bind_some az;refine DL (au.Ag ((((((ak.trans V).trans Y).trans Z).trans aa).trans ac).trans ae)) a8 rfl rfl rfl rfl rfl Tryz.underlying38 F5 ?_;rintro ba bb _ ⟨_,_,rfl,rfl,⟨_,_,rfl,rfl,⟨_,_,rfl,rfl,rfl⟩⟩⟩ ap;replace ap:At ab ba bb [iV K.1,iV K.2.1,iV K.2.2.1,iV K.2.2.2]:=ap;refine Ac (v:=.agg #[iV K.1,iV K.2.1,iV K.2.2.1,iV K.2.2.2]) rfl rfl rfl (λρ h=>Bm (vs:=[iV K.1,iV K.2.1,iV K.2.2.1,iV K.2.2.2]) J1 F5 (h _ _ rfl) (At.Cl ap)) ?_;refine JS.alloc rfl rfl rfl ay Hi λbe bf=>?_;refine JS.store (v:=.agg #[iV K.1,iV K.2.1,iV K.2.2.1,iV K.2.2.2]) (off:=0) 0 rfl rfl rfl bf rfl rfl F5 (by simp[Value.cells,A3]) rfl (d4 rfl) λbg=>?_;refine A8 0 bg rfl λbh aq ar bi=>?_;replace ar:At bh be 0 [iV K.1,iV K.2.1,iV K.2.2.1,iV K.2.2.2]:=ar;refine JL.done ?_;refine JL.region ?_;refine Ac (v:=.agg #[iV p0.1,iV p0.2.1,.slice a1 (p0.2.2).length c2]) rfl rfl rfl (λρ h=>Bm (vs:=[iV p0.1,iV p0.2.1,.slice a1 (p0.2.2).length c2]) JY FF (h _ _ rfl) (At.Cl (U.Ag ((((((V.trans Y).trans Z).trans aa).trans ac).trans ae).trans aq)))) ?_;refine Ac (v:=.agg #[iV K.1,iV K.2.1,iV K.2.2.1,iV K.2.2.2]) rfl rfl rfl (λρ h=>Bm (vs:=[iV K.1,iV K.2.1,iV K.2.2.1,iV K.2.2.2]) J1 F5 (h _ _ rfl) (At.Cl ar)) ?_;let⟨bE,bj,bl⟩:=bind_some a9;refine JS.call (vs:=[.agg #[iV p0.1,iV p0.2.1,.slice a1 (p0.2.2).length c2],.agg #[iV K.1,iV K.2.1,iV K.2.2.1,iV K.2.2.2]]) (VB (au.Ag (((((((ak.trans V).trans Y).trans Z).trans aa).trans ac).trans ae).trans aq)) bj) rfl rfl rfl (A4 Tryz.func43 rfl) rfl bi ?_;rintro _ bm _ bn ⟨rfl,rfl⟩ bo;refine AT (S':=[[],[]]) rfl bo λbp=>?_;refine JL.done ?_;refine Bv ?_;refine JL.region ?_;let⟨aj,bq,br⟩:=bind_some bl;refine Ac (v:=iV aj) rfl rfl rfl (λρ h=>BH (h _ _ rfl) (h _ _ rfl) bq) ?_;refine Ac (v:=iV aj) rfl rfl rfl (λρ h=>Yl.move (h _ _ rfl)) ?_;refine JL.done ?_;have bF:ai=.more aj:=(d0 br).symm;subst ai;refine Ap ?_ (a7 _ _ aj ⟨bm,rfl,rfl,((ae.trans aq).trans bn),bp⟩ am);exact⟨rfl,rfl,rfl,rfl,trivial⟩;have aA:=an;rw[d7 ao] at aA;refine JL.exit rfl ?_;have bG:ai=.done ():=(d0 aA).symm;subst ai;have bH:aw=():=(a6 _ am).symm;subst aw;refine Ap ?_ (a5 _ _ ⟨ab,rfl,rfl,ae,ay⟩);exact trivial
def Jq(fuel:Nat)(p0:Int×Int×(List (Int×Int×Int×Int))):Option ((Int×Int×(List (Int×Int×Int×Int)))):=
 (Mr fuel p0).bind λK=>
 some p0
theorem Um(V:AK (rP rI (rP rI (rP rI rI))) E a1 c2 (p0.2.2)){r:(Int×Int×(List (Int×Int×Int×Int)))}(Y:Jq fuel p0=some r):Ax J 24 [.agg #[iV p0.1,iV p0.2.1,.slice a1 (p0.2.2).length c2]] E [] (λw E' B'=>∃(Z:Option Addr) (aa:Nat),w=.agg #[iV r.1,iV r.2.1,.slice Z (r.2.2).length aa]/\B'=[]/\AK (rP rI (rP rI (rP rI rI))) E' Z aa (r.2.2)):=by
 refine Ax.enter Tryz.func24 rfl (d4 rfl) λQ ar cs H ac ae=>?_;unfold Jq at Y;refine JL.seq (JL.region ?_);refine JS.box (v:=.agg #[iV p0.1,iV p0.2.1,.slice a1 (p0.2.2).length c2]) rfl rfl rfl ac rfl λag ah=>A8 1 ah rfl λai O K aj=>?_;replace K:At ai ag 0 [iV p0.1,iV p0.2.1,.slice a1 (p0.2.2).length c2]:=K;refine JS.alloc rfl rfl rfl aj M6 λak al=>JL.done (JL.seq ?_);refine JL.region (Ac (v:=.agg #[iV p0.1,iV p0.2.1,.slice a1 (p0.2.2).length c2]) rfl rfl rfl (λρ h=>Bm (vs:=[iV p0.1,iV p0.2.1,.slice a1 (p0.2.2).length c2]) JY FF (h _ _ rfl) (At.Cl K)) ?_);let⟨au,am,an⟩:=bind_some Y;refine JS.call (vs:=[.agg #[iV p0.1,iV p0.2.1,.slice a1 (p0.2.2).length c2]]) (UL (V.Ag O) am) rfl rfl rfl (A4 Tryz.func37 rfl) rfl al ?_;rintro _ av _ U ⟨rfl,rfl⟩ ao;refine AT (S':=[[],[],[(ak,.cells #[iV 0,iV 0,.slice none 0 0] 81 (0,0))],[]]) rfl ao λap=>JL.done (JL.seq ?_);refine JL.region (Ac (v:=.agg #[iV p0.1,iV p0.2.1,.slice a1 (p0.2.2).length c2]) rfl rfl rfl (λρ h=>Bm (vs:=[iV p0.1,iV p0.2.1,.slice a1 (p0.2.2).length c2]) JY FF (h _ _ rfl) (At.Cl (K.Ag U))) ?_);refine Ac (v:=.agg #[iV p0.1,iV p0.2.1,.slice a1 (p0.2.2).length c2]) rfl rfl rfl (λρ h=>Cf [(0,3)] h M6 Tryz.underlying81 ⟨rfl,AB Tryz.type40,trivial⟩ rfl rfl) (JS.store (v:=.agg #[iV p0.1,iV p0.2.1,.slice a1 (p0.2.2).length c2]) (off:=0) 2 rfl rfl rfl ap rfl rfl GW (by simp[Value.cells,A3]) rfl (d4 rfl) λab=>?_);refine JL.done ?_;have aw:r=p0:=(d0 an).symm;subst r;refine JL.ret (v:=.agg #[iV p0.1,iV p0.2.1,.slice a1 (p0.2.2).length c2]) rfl rfl (Ay.list Tryz.func24 rfl (vs:=[.agg #[iV p0.1,iV p0.2.1,.slice a1 (p0.2.2).length c2]]) ⟨⟨_,rfl,Ld.many (vs:=[iV p0.1,iV p0.2.1,.slice a1 (p0.2.2).length c2]) HR GW (DV (off:=0) 2 ab rfl rfl)⟩,trivial⟩) (F9 2 ab rfl λaq=>?_);exact ae _ _ _ _ (O.trans U) rfl ⟨a1,c2,rfl,rfl,(V.Ag (O.trans U))⟩ aq
def NA(fuel:Nat)(p0:Int×Int×(List (Int×Int×Int×Int)))(p1:Nat×Nat)(K:Nat×Int):Option (BX (Nat×Int) (Nat)):=
 if K.2<((p0.2.2).length:Int) then(
  (ix p0.2.2 (K.2)).bind λO=>
  (Jn fuel O).bind λU=>
  (KR fuel p0 U p1).bind λV=>
  Option.bind (
   if(!V)=true then(
    (KV fuel ([O.1]:List Int)).bind λY=>
    (Hp K.1 Y).bind λZ=>
    some Z
   ) else(
    some K.1
   )
  ) λaa=>
  (AR (K.2+1)).bind λab=>
  some (.more (aa,ab))
 ) else(
  some (.done K.1)
 )
def GD(fuel:Nat)(p0:Int×Int×(List (Int×Int×Int×Int)))(p1:Nat×Nat):Option (Nat):=
 (FX p0.1).bind λK=>
 Option.bind (iter (NA fuel p0 p1) fuel (((K+(256 - 1))%256),0)) λO=>
 some O
theorem Uu{p1:Nat×Nat}(aD:AK (rP rI (rP rI (rP rI rI))) E a1 c2 (p0.2.2)){r:Nat}(aE:GD fuel p0 p1=some r):Ax J 49 [.agg #[iV p0.1,iV p0.2.1,.slice a1 (p0.2.2).length c2],.agg #[.int .u8 ((p1.1:Nat):Int),.int .u8 ((p1.2:Nat):Int)]] E [] (λw E' B'=>w=.int .u8 ((r:Nat):Int)/\B'=[]):=by
 refine Ax.enter Tryz.func49 rfl (d4 rfl) λQ bO cs H aQ aR=>?_;unfold GD at aE;refine JL.seq (JL.region ?_);refine JS.box (v:=.agg #[iV p0.1,iV p0.2.1,.slice a1 (p0.2.2).length c2]) rfl rfl rfl aQ rfl λO aS=>A8 1 aS rfl λaT aq ac aU=>?_;replace ac:At aT O 0 [iV p0.1,iV p0.2.1,.slice a1 (p0.2.2).length c2]:=ac;refine JS.box (v:=.agg #[.int .u8 ((p1.1:Nat):Int),.int .u8 ((p1.2:Nat):Int)]) rfl rfl rfl aU rfl λah aV=>A8 2 aV rfl λai Z ar aW=>?_;replace ar:At ai ah 0 [.int .u8 ((p1.1:Nat):Int),.int .u8 ((p1.2:Nat):Int)]:=ar;refine Ac (v:=.int .u8 ((0:Nat):Int)) rfl rfl rfl (λρ h=>Yl.assign (h _ _ rfl)) (JL.done ?_);refine JL.seq (JL.region ?_);refine Ac (v:=.pointer (some ⟨O,0,none⟩)) rfl rfl rfl (λρ h=>Aq (a:=⟨O,0,none⟩) 2 0 Tryz.underlying81 FF rfl rfl rfl (h _ _ rfl)) (Ac (v:=.pointer (some ⟨O,0,none⟩)) rfl rfl rfl (λρ h=>Aq (a:=⟨O,0,none⟩) 0 0 Tryz.underlying40 Aw rfl rfl rfl (h _ _ rfl)) ?_);refine Ac (v:=iV p0.1) rfl rfl rfl (λρ h=>Yl.load AD (h _ _ rfl) (At.AN (j:=0) (ac.Ag Z) rfl)) ?_;let⟨aj,aX,aY⟩:=bind_some aE;refine Ac (v:=.int .u8 ((aj:Nat):Int)) rfl rfl rfl (λρ h=>Ko (h _ _ rfl) (h _ _ rfl) aX) (Ac (v:=.int .u8 ((((aj+(256 - 1))%256):Nat):Int)) rfl rfl rfl (λρ h=>PQ (h _ _ rfl) (h _ _ rfl) (by decide)) ?_);refine Ac (v:=.int .u8 ((((aj+(256 - 1))%256):Nat):Int)) rfl rfl rfl (λρ h=>Yl.assign (h _ _ rfl)) (JL.done ?_);refine JL.seq (JL.seq ?_);refine JL.region (Ac (v:=.pointer (some ⟨O,0,none⟩)) rfl rfl rfl (λρ h=>Aq (a:=⟨O,0,none⟩) 2 0 Tryz.underlying81 FF rfl rfl rfl (h _ _ rfl)) ?_);refine Ac (v:=.pointer (some ⟨O,2,none⟩)) rfl rfl rfl (λρ h=>Aq (a:=⟨O,0,none⟩) 0 2 Tryz.underlying40 IY rfl rfl rfl (h _ _ rfl)) (Ac (v:=.slice a1 (p0.2.2).length c2) rfl rfl rfl (λρ h=>Yl.load Lc (h _ _ rfl) (At.AN (j:=2) (ac.Ag Z) rfl)) ?_);refine Ac (v:=iV ((p0.2.2).length:Int)) rfl rfl rfl (λρ h=>Yl.len rfl Tryz.underlying38 (h _ _ rfl)) (Ac (v:=iV 0) rfl rfl rfl (λρ h=>Yl.move (h _ _ rfl)) ?_);refine JL.done ?_;obtain⟨V,aZ,a2⟩:=bind_some aY;refine Bj (λL s=>∃(ak:LH),L=[(5,.int .u8 ((V:Nat):Int))]/\s=Ae ak H []/\Le ai ak/\Ak ak H []) ?_ ?_;rintro _ _ ⟨ak,rfl,rfl,a3,a4⟩;refine JL.seq (JL.region ?_);refine Ac (v:=.int .u8 ((V:Nat):Int)) rfl rfl rfl (λρ h=>Yl.move (h _ _ rfl)) (Ac (v:=.int .u8 ((V:Nat):Int)) rfl rfl rfl (λρ h=>Yl.assign (h _ _ rfl)) ?_);refine JL.done ?_;have bP:r=V:=(d0 a2).symm;subst r;exact JL.ret (v:=.int .u8 ((V:Nat):Int)) rfl rfl (Ay.list Tryz.func49 rfl (vs:=[.int .u8 ((V:Nat):Int)]) ⟨rfl,trivial⟩) (aR _ _ _ _ ((aq.trans Z).trans a3) rfl ⟨rfl,rfl⟩ a4);intro a5;refine JL.block (Ap (L':=[(2,.pointer (some ⟨O,0,none⟩)),(3,.pointer (some ⟨ah,0,none⟩)),(5,.int .u8 ((((aj+(256 - 1))%256):Nat):Int)),(15,.slice a1 (p0.2.2).length c2),(16,iV ((p0.2.2).length:Int)),(17,iV 0)]) ⟨rfl,rfl,rfl,rfl,rfl,rfl,trivial⟩ ?_);refine CG aZ (λL s U=>∃(aa:LH),L=[(2,.pointer (some ⟨O,0,none⟩)),(3,.pointer (some ⟨ah,0,none⟩)),(5,.int .u8 ((U.1:Nat):Int)),(15,.slice a1 (p0.2.2).length c2),(16,iV ((p0.2.2).length:Int)),(17,iV U.2)]/\s=Ae aa H []/\Le ai aa/\Ak aa H []) ⟨ai,rfl,rfl,(Le.refl _),aW⟩ ?_;rintro _ _ U ⟨aa,rfl,rfl,ab,aF⟩ a6 ⟨al,au⟩ a7;have av:=au;unfold NA at av;refine JL.seq (JL.region ?_);refine Ac (v:=.bool (decide (U.2<((p0.2.2).length:Int)))) rfl rfl rfl (λρ h=>Yl.lss (h _ _ rfl) (h _ _ rfl)) (JL.done ?_);refine JL.seq (AU (p:=U.2<((p0.2.2).length:Int)) rfl (λaw=>?_) (λaw=>?_));have aG:=av;rw[d5 aw] at aG;refine JL.skip ?_;refine JL.seq ?_;refine JL.block ?_;refine JL.seq ?_;refine JL.region ?_;let⟨K,a8,a9⟩:=bind_some aG;refine DL (aD.Ag ((aq.trans Z).trans ab)) a8 rfl rfl rfl rfl rfl Tryz.underlying38 F5 ?_;rintro ba bb _ ⟨_,_,rfl,rfl,⟨_,_,rfl,rfl,⟨_,_,rfl,rfl,rfl⟩⟩⟩ ay;replace ay:At aa ba bb [iV K.1,iV K.2.1,iV K.2.2.1,iV K.2.2.2]:=ay;refine Ac (v:=.agg #[iV K.1,iV K.2.1,iV K.2.2.1,iV K.2.2.2]) rfl rfl rfl (λρ h=>Bm (vs:=[iV K.1,iV K.2.1,iV K.2.2.1,iV K.2.2.2]) J1 F5 (h _ _ rfl) (At.Cl ay)) ?_;refine JS.alloc rfl rfl rfl aF Hi λam be=>?_;refine AT (S':=[[(am,.cells #[iV 0,iV 0,iV 0,iV 0] 44 (0,0))]]) rfl be λbf=>?_;refine JS.store (v:=.agg #[iV K.1,iV K.2.1,iV K.2.2.1,iV K.2.2.2]) (off:=0) 0 rfl rfl rfl bf rfl rfl F5 (by simp[Value.cells,A3]) rfl (d4 rfl) λbg=>?_;refine A8 0 bg rfl λbh an ao bi=>?_;replace ao:At bh am 0 [iV K.1,iV K.2.1,iV K.2.2.1,iV K.2.2.2]:=ao;refine JL.done ?_;refine JL.seq ?_;refine DJ 4 mixed rfl (by decide+kernel) λaz=>?_;refine JG.val (v:=.agg #[iV p0.1,iV p0.2.1,.slice a1 (p0.2.2).length c2]) 0 rfl az (by decide+kernel) rfl rfl rfl (λρ h s' ae=>Bm (vs:=[iV p0.1,iV p0.2.1,.slice a1 (p0.2.2).length c2]) HR GW (h _ _ rfl) (At.H5 (ac.Ag ((Z.trans ab).trans an)) ae)) ?_;refine JG.val (v:=.agg #[iV K.1,iV K.2.1,iV K.2.2.1,iV K.2.2.2]) 1 rfl az (by decide+kernel) rfl rfl rfl (λρ h s' ae=>Bm (vs:=[iV K.1,iV K.2.1,iV K.2.2.1,iV K.2.2.2]) J1 F5 (h _ _ rfl) (At.H5 ao ae)) ?_;refine JG.val (v:=.agg #[.int .u8 ((p1.1:Nat):Int),.int .u8 ((p1.2:Nat):Int)]) 3 rfl az (by decide+kernel) rfl rfl rfl (λρ h s' ae=>Bm (vs:=[.int .u8 ((p1.1:Nat):Int),.int .u8 ((p1.2:Nat):Int)]) F4 Cq (h _ _ rfl) (At.H5 (ar.Ag (ab.trans an)) ae)) ?_;let⟨bj,bl,bm⟩:=bind_some a9;refine JG.call (i:=2) (vs:=[.agg #[iV K.1,iV K.2.1,iV K.2.2.1,iV K.2.2.2]]) (Qn bl) (by decide+kernel) rfl rfl rfl (A4 Tryz.func55 rfl) rfl bi ?_;rintro _ bQ _ aA ⟨rfl,rfl,bn⟩ bo;refine AL.leaf (tail:=[4,5]) (by decide+kernel) (λt=>Bb (by decide+kernel) (Bb (by decide+kernel) Cn) t) ?_;let⟨aH,bp,bq⟩:=bind_some bm;refine JS.call (vs:=[.agg #[iV p0.1,iV p0.2.1,.slice a1 (p0.2.2).length c2],BQ [(140,1),(141,1),(143,1),(144,1),(146,2),(148,2),(150,1)] bj,.agg #[.int .u8 ((p1.1:Nat):Int),.int .u8 ((p1.2:Nat):Int)]]) (UF (aD.Ag ((((aq.trans Z).trans ab).trans an).trans aA)) bn bp) rfl rfl rfl (A4 Tryz.func72 rfl) rfl bo ?_;rintro _ aI _ aJ ⟨rfl,rfl⟩ aK;refine Ac (v:=.bool (!aH)) rfl rfl rfl (λρ h=>Yl.not (h _ _ rfl)) ?_;refine JL.done ?_;let⟨Y,aL,br⟩:=bind_some bq;refine Bj (λL s=>∃(ag:LH),L=[(2,.pointer (some ⟨O,0,none⟩)),(3,.pointer (some ⟨ah,0,none⟩)),(5,.int .u8 ((Y:Nat):Int)),(15,.slice a1 (p0.2.2).length c2),(16,iV ((p0.2.2).length:Int)),(17,iV U.2)]/\s=Ae ag H []/\Le aI ag/\Ak ag H []) ?_ ?_;rintro _ _ ⟨ag,rfl,rfl,bu,bv⟩;refine Bv (JL.region ?_);let⟨ap,bw,bx⟩:=bind_some br;refine Ac (v:=iV ap) rfl rfl rfl (λρ h=>BH (h _ _ rfl) (h _ _ rfl) bw) (Ac (v:=iV ap) rfl rfl rfl (λρ h=>Yl.move (h _ _ rfl)) ?_);refine JL.done ?_;have bR:al=.more (Y,ap):=(d0 bx).symm;subst al;refine Ap ?_ (a7 _ _ (Y,ap) ⟨ag,rfl,rfl,((((ab.trans an).trans aA).trans aJ).trans bu),bv⟩ au);exact⟨rfl,rfl,rfl,rfl,rfl,rfl,trivial⟩;intro aM;refine CK (t:=(!aH)) rfl (λaB=>?_) (λaB=>?_);have aN:=aL;rw[d5 aB] at aN;refine JL.region ?_;refine Ac (v:=.int .u8 ((U.1:Nat):Int)) rfl rfl rfl (λρ h=>Yl.move (h _ _ rfl)) ?_;refine Ac (v:=.pointer (some ⟨am,0,none⟩)) rfl rfl rfl (λρ h=>Aq (a:=⟨am,0,none⟩) 0 0 Tryz.underlying44 Aw rfl rfl rfl (h _ _ rfl)) ?_;refine Ac (v:=iV K.1) rfl rfl rfl (λρ h=>Yl.load AD (h _ _ rfl) (At.AN (j:=0) (ao.Ag (aA.trans aJ)) rfl)) ?_;refine H8 (pp:=rI) [iV K.1] [K.1] rfl rfl rfl Tryz.underlying22 Aw Dk (by decide) rfl rfl rfl ⟨rfl,trivial⟩ aK λbz bA bB bC=>?_;refine AT (S':=[[],[],[],bA]) rfl bC λbD=>?_;refine CP 3 bB bD rfl λbS bE bF bG=>?_;let⟨bT,bH,bI⟩:=bind_some aN;refine JS.call (vs:=[.slice (some ⟨bz,0,none⟩) (([K.1]:List Int)).length 1]) (UX bF bH) rfl rfl rfl (A4 Tryz.func73 rfl) rfl bG ?_;rintro _ bJ _ bK ⟨rfl,rfl⟩ bL;let⟨aC,bM,bN⟩:=bind_some bI;refine Ac (v:=.int .u8 ((aC:Nat):Int)) rfl rfl rfl (λρ h=>Na (h _ _ rfl) (h _ _ rfl) bM) ?_;refine Ac (v:=.int .u8 ((aC:Nat):Int)) rfl rfl rfl (λρ h=>Yl.assign (h _ _ rfl)) ?_;refine JL.done ?_;have bU:Y=aC:=(d0 bN).symm;subst Y;refine Ap ?_ (aM _ _ ⟨bJ,rfl,rfl,(bE.trans bK),bL⟩);exact⟨rfl,rfl,rfl,rfl,rfl,rfl,trivial⟩;have aO:=aL;rw[d7 (by rw[aB];exact f8)] at aO;refine JL.skip ?_;have bV:Y=U.1:=(d0 aO).symm;subst Y;refine Ap ?_ (aM _ _ ⟨aI,rfl,rfl,(Le.refl _),aK⟩);exact⟨rfl,rfl,rfl,rfl,rfl,rfl,trivial⟩;have aP:=av;rw[d7 aw] at aP;refine JL.exit rfl ?_;have bW:al=.done U.1:=(d0 aP).symm;subst al;have bX:V=U.1:=(a6 _ au).symm;subst V;refine Ap ?_ (a5 _ _ ⟨aa,rfl,rfl,ab,aF⟩);exact⟨rfl,trivial⟩
def KD(fuel:Nat)(p0:Int):Option (Bool):=
 some (decide (p0≠p0))
variable{r:Bool}
theorem P1{p0:Int}(K:KD fuel p0=some r):Ax J 118 [iV p0] E [] (λw E' B'=>w=.bool r/\B'=[]):=by
 refine Ax.enter Tryz.func118 rfl (d4 rfl) λQ V cs H O U=>?_;unfold KD at K;refine JL.seq (JL.region ?_);refine Ac (v:=.bool false) rfl rfl rfl (λρ h=>Yl.assign (h _ _ rfl)) (JL.done ?_);refine JL.seq (JL.region ?_);refine Ac (v:=iV p0) rfl rfl rfl (λρ h=>Yl.move (h _ _ rfl)) (Ac (v:=iV p0) rfl rfl rfl (λρ h=>Yl.move (h _ _ rfl)) ?_);refine Ac (v:=.bool (decide (p0≠p0))) rfl rfl rfl (λρ h=>Cr (h _ _ rfl) (h _ _ rfl)) (Ac (v:=.bool (decide (p0≠p0))) rfl rfl rfl (λρ h=>Yl.assign (h _ _ rfl)) ?_);refine JL.done ?_;have Y:r=(decide (p0≠p0)):=(d0 K).symm;subst r;exact JL.ret (v:=.bool (decide (p0≠p0))) rfl rfl (Ay.list Tryz.func118 rfl (vs:=[.bool (decide (p0≠p0))]) ⟨rfl,trivial⟩) (U _ _ _ _ (Le.refl _) rfl ⟨rfl,rfl⟩ O)
def ME(fuel:Nat)(p0:Int)(p1:Int):Option (Int):=
 (KD fuel p0).bind λO=>
 (KD fuel p1).bind λK=>
 if O=true then(
  if K=true then(
   some 0
  ) else(
   some (-1)
  )
 ) else(
  if K=true then(
   some 1
  ) else(
   if p0<p1 then(
    some (-1)
   ) else(
    if p1<p0 then(
     some 1
    ) else(
     some 0
    )
   )
  )
 )
variable{p1:Int}
theorem UI{p0 r:Int}(al:ME fuel p0 p1=some r):Ax J 105 [iV p0,iV p1] E [] (λw E' B'=>w=iV r/\B'=[]):=by
 refine Ax.enter Tryz.func105 rfl (d4 rfl) λQ aB cs H av K=>?_;unfold ME at al;refine JL.seq (JL.region ?_);refine Ac (v:=iV 0) rfl rfl rfl (λρ h=>Yl.assign (h _ _ rfl)) (JL.done ?_);refine JL.seq (JL.region ?_);refine Ac (v:=iV p0) rfl rfl rfl (λρ h=>Yl.move (h _ _ rfl)) ?_;let⟨Z,aw,ay⟩:=bind_some al;refine JS.call (vs:=[iV p0]) (P1 aw) rfl rfl rfl (A4 Tryz.func118 rfl) rfl av ?_;rintro _ aC _ O ⟨rfl,rfl⟩ az;refine Ac (v:=.bool Z) rfl rfl rfl (λρ h=>Yl.assign (h _ _ rfl)) (JL.done ?_);refine JL.seq (JL.region ?_);refine Ac (v:=iV p1) rfl rfl rfl (λρ h=>Yl.move (h _ _ rfl)) ?_;let⟨Y,aA,am⟩:=bind_some ay;refine JS.call (vs:=[iV p1]) (P1 aA) rfl rfl rfl (A4 Tryz.func118 rfl) rfl az ?_;rintro _ aD _ U ⟨rfl,rfl⟩ V;refine Ac (v:=.bool Y) rfl rfl rfl (λρ h=>Yl.assign (h _ _ rfl)) (JL.done ?_);refine JL.seq (JL.seq ?_);refine JL.region (Ac (v:=.bool Z) rfl rfl rfl (λρ h=>Yl.move (h _ _ rfl)) ?_);refine JL.done (CK (t:=Z) rfl (λaa=>?_) (λaa=>?_));have ab:=am;rw[d5 aa] at ab;refine JL.seq ?_;refine JL.seq ?_;refine JL.region ?_;refine Ac (v:=.bool Y) rfl rfl rfl (λρ h=>Yl.move (h _ _ rfl)) ?_;refine JL.done ?_;refine CK (t:=Y) rfl (λac=>?_) (λac=>?_);have an:=ab;rw[d5 ac] at an;refine JL.seq ?_;refine JL.region ?_;refine Ac (v:=iV 0) rfl rfl rfl (λρ h=>Yl.assign (h _ _ rfl)) ?_;refine JL.done ?_;have aE:r=0:=(d0 an).symm;subst r;refine JL.ret (v:=iV 0) rfl rfl (Ay.list Tryz.func105 rfl (vs:=[iV 0]) ⟨rfl,trivial⟩) ?_;exact K _ _ _ _ (O.trans U) rfl ⟨rfl,rfl⟩ V;have ao:=ab;rw[d7 (by rw[ac];exact f8)] at ao;refine JL.skip ?_;refine JL.seq ?_;refine JL.region ?_;refine Ac (v:=iV (-1)) rfl rfl rfl (λρ h=>Yl.assign (h _ _ rfl)) ?_;refine JL.done ?_;have aF:r=(-1):=(d0 ao).symm;subst r;refine JL.ret (v:=iV (-1)) rfl rfl (Ay.list Tryz.func105 rfl (vs:=[iV (-1)]) ⟨rfl,trivial⟩) ?_;exact K _ _ _ _ (O.trans U) rfl ⟨rfl,rfl⟩ V;have ae:=am;rw[d7 (by rw[aa];exact f8)] at ae;refine JL.skip ?_;refine JL.seq ?_;refine JL.seq ?_;refine JL.region ?_;refine Ac (v:=.bool Y) rfl rfl rfl (λρ h=>Yl.move (h _ _ rfl)) ?_;refine JL.done ?_;refine CK (t:=Y) rfl (λag=>?_) (λag=>?_);have ap:=ae;rw[d5 ag] at ap;refine JL.seq ?_;refine JL.region ?_;refine Ac (v:=iV 1) rfl rfl rfl (λρ h=>Yl.assign (h _ _ rfl)) ?_;refine JL.done ?_;have aG:r=1:=(d0 ap).symm;subst r;refine JL.ret (v:=iV 1) rfl rfl (Ay.list Tryz.func105 rfl (vs:=[iV 1]) ⟨rfl,trivial⟩) ?_;exact K _ _ _ _ (O.trans U) rfl ⟨rfl,rfl⟩ V;have ah:=ae;rw[d7 (by rw[ag];exact f8)] at ah;refine JL.skip ?_;refine JL.seq ?_;refine JL.seq ?_;refine JL.region ?_;refine Ac (v:=iV p0) rfl rfl rfl (λρ h=>Yl.move (h _ _ rfl)) ?_;refine Ac (v:=iV p1) rfl rfl rfl (λρ h=>Yl.move (h _ _ rfl)) ?_;refine Ac (v:=.bool (decide (p0<p1))) rfl rfl rfl (λρ h=>Yl.lss (h _ _ rfl) (h _ _ rfl)) ?_;refine JL.done ?_;refine AU (p:=p0<p1) rfl (λai=>?_) (λai=>?_);have aq:=ah;rw[d5 ai] at aq;refine JL.seq ?_;refine JL.region ?_;refine Ac (v:=iV (-1)) rfl rfl rfl (λρ h=>Yl.assign (h _ _ rfl)) ?_;refine JL.done ?_;have aH:r=(-1):=(d0 aq).symm;subst r;refine JL.ret (v:=iV (-1)) rfl rfl (Ay.list Tryz.func105 rfl (vs:=[iV (-1)]) ⟨rfl,trivial⟩) ?_;exact K _ _ _ _ (O.trans U) rfl ⟨rfl,rfl⟩ V;have aj:=ah;rw[d7 ai] at aj;refine JL.skip ?_;refine JL.seq ?_;refine JL.seq ?_;refine JL.region ?_;refine Ac (v:=iV p0) rfl rfl rfl (λρ h=>Yl.move (h _ _ rfl)) ?_;refine Ac (v:=iV p1) rfl rfl rfl (λρ h=>Yl.move (h _ _ rfl)) ?_;refine Ac (v:=.bool (decide (p1<p0))) rfl rfl rfl (λρ h=>Yl.gtr (h _ _ rfl) (h _ _ rfl)) ?_;refine JL.done ?_;refine AU (p:=p1<p0) rfl (λak=>?_) (λak=>?_);have ar:=aj;rw[d5 ak] at ar;refine JL.seq ?_;refine JL.region ?_;refine Ac (v:=iV 1) rfl rfl rfl (λρ h=>Yl.assign (h _ _ rfl)) ?_;refine JL.done ?_;have aI:r=1:=(d0 ar).symm;subst r;refine JL.ret (v:=iV 1) rfl rfl (Ay.list Tryz.func105 rfl (vs:=[iV 1]) ⟨rfl,trivial⟩) ?_;exact K _ _ _ _ (O.trans U) rfl ⟨rfl,rfl⟩ V;have au:=aj;rw[d7 ak] at au;refine JL.skip ?_;refine JL.seq ?_;refine JL.region ?_;refine Ac (v:=iV 0) rfl rfl rfl (λρ h=>Yl.assign (h _ _ rfl)) ?_;refine JL.done ?_;have aJ:r=0:=(d0 au).symm;subst r;refine JL.ret (v:=iV 0) rfl rfl (Ay.list Tryz.func105 rfl (vs:=[iV 0]) ⟨rfl,trivial⟩) ?_;exact K _ _ _ _ (O.trans U) rfl ⟨rfl,rfl⟩ V
def NM(fuel:Nat)(p0:List Int)(p1:List Int)(K:Int):Option (BX (Int) ((Int)⊕(Unit))):=
 if K<((p0).length:Int) then(
  (ix p0 (K)).bind λU=>
  if((p1).length:Int)<=K then(
   some (.done (Sum.inl 1))
  ) else(
   (ix p1 (K)).bind λV=>
   (ME fuel U V).bind λO=>
   if O≠0 then(
    some (.done (Sum.inl O))
   ) else(
    (AR (K+1)).bind λY=>
    some (.more Y)
   )
  )
 ) else(
  some (.done (Sum.inr ()))
 )
def Jx(fuel:Nat)(p0:List Int)(p1:List Int):Option (Int):=
 Option.bind (iter (NM fuel p0 p1) fuel 0) λK=>
 Sum.elim (λr=>some r) (λO=>
 if((p0).length:Int)<((p1).length:Int) then(
  some (-1)
 ) else(
  some 0
 )
 ) K
variable{U:Option Addr}{V:Nat}
theorem P5{p0 p1:List Int}(aO:AK rI E a1 c2 (p0))(aP:AK rI E U V (p1)){r:Int}(aw:Jx fuel p0 p1=some r):Ax J 84 [.slice a1 (p0).length c2,.slice U (p1).length V] E [] (λw E' B'=>w=iV r/\B'=[]):=by
 refine Ax.enter Tryz.func84 rfl (d4 rfl) λQ ba cs H aQ ah=>?_;unfold Jx at aw;refine JL.seq (JL.region ?_);refine Ac (v:=iV 0) rfl rfl rfl (λρ h=>Yl.assign (h _ _ rfl)) (JL.done ?_);refine JL.seq (JL.seq ?_);refine JL.region (Ac (v:=.slice a1 (p0).length c2) rfl rfl rfl (λρ h=>Yl.move (h _ _ rfl)) ?_);refine Ac (v:=iV ((p0).length:Int)) rfl rfl rfl (λρ h=>Yl.len rfl Tryz.underlying22 (h _ _ rfl)) (Ac (v:=iV 0) rfl rfl rfl (λρ h=>Yl.move (h _ _ rfl)) ?_);refine JL.done ?_;let⟨aa,aR,ak⟩:=bind_some aw;refine Bj (λL s=>∃(ay:Unit) (ai:LH),aa=Sum.inr ay/\L=[(0,.slice a1 (p0).length c2),(1,.slice U (p1).length V)]/\s=Ae ai H []/\Le E ai/\Ak ai H []) ?_ ?_;rintro _ _ ⟨ay,ai,rfl,rfl,rfl,az,aA⟩;have aB:=elim_inr ak;refine JL.seq (JL.seq ?_);refine JL.region (Ac (v:=.slice a1 (p0).length c2) rfl rfl rfl (λρ h=>Yl.move (h _ _ rfl)) ?_);refine Ac (v:=iV ((p0).length:Int)) rfl rfl rfl (λρ h=>Yl.len rfl Tryz.underlying22 (h _ _ rfl)) (Ac (v:=.slice U (p1).length V) rfl rfl rfl (λρ h=>Yl.move (h _ _ rfl)) ?_);refine Ac (v:=iV ((p1).length:Int)) rfl rfl rfl (λρ h=>Yl.len rfl Tryz.underlying22 (h _ _ rfl)) (Ac (v:=.bool (decide (((p0).length:Int)<((p1).length:Int)))) rfl rfl rfl (λρ h=>Yl.lss (h _ _ rfl) (h _ _ rfl)) ?_);refine JL.done (AU (p:=((p0).length:Int)<((p1).length:Int)) rfl (λal=>?_) (λal=>?_));have aC:=aB;rw[d5 al] at aC;refine JL.seq ?_;refine JL.region ?_;refine Ac (v:=iV (-1)) rfl rfl rfl (λρ h=>Yl.assign (h _ _ rfl)) ?_;refine JL.done ?_;have bb:r=(-1):=(d0 aC).symm;subst r;refine JL.ret (v:=iV (-1)) rfl rfl (Ay.list Tryz.func84 rfl (vs:=[iV (-1)]) ⟨rfl,trivial⟩) ?_;exact ah _ _ _ _ az rfl ⟨rfl,rfl⟩ aA;have aD:=aB;rw[d7 al] at aD;refine JL.skip ?_;refine JL.seq ?_;refine JL.region ?_;refine Ac (v:=iV 0) rfl rfl rfl (λρ h=>Yl.assign (h _ _ rfl)) ?_;refine JL.done ?_;have be:r=0:=(d0 aD).symm;subst r;refine JL.ret (v:=iV 0) rfl rfl (Ay.list Tryz.func84 rfl (vs:=[iV 0]) ⟨rfl,trivial⟩) ?_;exact ah _ _ _ _ az rfl ⟨rfl,rfl⟩ aA;intro aS;refine JL.block (Ap (L':=[(0,.slice a1 (p0).length c2),(1,.slice U (p1).length V),(9,.slice a1 (p0).length c2),(10,iV ((p0).length:Int)),(11,iV 0)]) ⟨rfl,rfl,rfl,rfl,rfl,trivial⟩ ?_);refine CG aR (λL s O=>∃(Z:LH),L=[(0,.slice a1 (p0).length c2),(1,.slice U (p1).length V),(9,.slice a1 (p0).length c2),(10,iV ((p0).length:Int)),(11,iV O)]/\s=Ae Z H []/\Le E Z/\Ak Z H []) ⟨E,rfl,rfl,(Le.refl _),aQ⟩ ?_;rintro _ _ O ⟨Z,rfl,rfl,ab,am⟩ an ⟨Y,ac⟩ aT;have ao:=ac;unfold NM at ao;refine JL.seq (JL.region ?_);refine Ac (v:=.bool (decide (O<((p0).length:Int)))) rfl rfl rfl (λρ h=>Yl.lss (h _ _ rfl) (h _ _ rfl)) (JL.done ?_);refine JL.seq (AU (p:=O<((p0).length:Int)) rfl (λap=>?_) (λap=>?_));have aE:=ao;rw[d5 ap] at aE;refine JL.skip ?_;refine JL.seq ?_;refine JL.block ?_;refine JL.seq ?_;refine JL.region ?_;refine Ac (v:=iV O) rfl rfl rfl (λρ h=>Yl.move (h _ _ rfl)) ?_;let⟨ae,aU,aF⟩:=bind_some aE;refine DL (aO.Ag ab) aU rfl rfl rfl rfl rfl Tryz.underlying22 Aw ?_;rintro aV aW _ rfl aq;replace aq:At Z aV aW [iV ae]:=aq;refine Ac (v:=iV ae) rfl rfl rfl (λρ h=>Yl.load AD (h _ _ rfl) (At.AN (j:=0) aq rfl)) ?_;refine Ac (v:=iV O) rfl rfl rfl (λρ h=>Yl.assign (h _ _ rfl)) ?_;refine Ac (v:=iV ae) rfl rfl rfl (λρ h=>Yl.assign (h _ _ rfl)) ?_;refine JL.done ?_;refine JL.seq ?_;refine JL.seq ?_;refine JL.region ?_;refine Ac (v:=iV O) rfl rfl rfl (λρ h=>Yl.move (h _ _ rfl)) ?_;refine Ac (v:=.slice U (p1).length V) rfl rfl rfl (λρ h=>Yl.move (h _ _ rfl)) ?_;refine Ac (v:=iV ((p1).length:Int)) rfl rfl rfl (λρ h=>Yl.len rfl Tryz.underlying22 (h _ _ rfl)) ?_;refine Ac (v:=.bool (decide (((p1).length:Int)<=O))) rfl rfl rfl (λρ h=>Yl.geq (h _ _ rfl) (h _ _ rfl)) ?_;refine JL.done ?_;refine AU (p:=((p1).length:Int)<=O) rfl (λar=>?_) (λar=>?_);have aG:=aF;rw[d5 ar] at aG;refine JL.seq ?_;refine JL.region ?_;refine Ac (v:=iV 1) rfl rfl rfl (λρ h=>Yl.assign (h _ _ rfl)) ?_;refine JL.done ?_;have bf:Y=.done (Sum.inl 1):=(d0 aG).symm;subst Y;have bg:aa=Sum.inl 1:=(an _ ac).symm;subst aa;have aX:=elim_inl ak;have bh:r=1:=(d0 aX).symm;subst r;refine JL.ret (v:=iV 1) rfl rfl (Ay.list Tryz.func84 rfl (vs:=[iV 1]) ⟨rfl,trivial⟩) ?_;exact ah _ _ _ _ ab rfl ⟨rfl,rfl⟩ am;have aH:=aF;rw[d7 ar] at aH;refine JL.skip ?_;refine JL.seq ?_;refine JL.region ?_;refine Ac (v:=.slice U (p1).length V) rfl rfl rfl (λρ h=>Yl.move (h _ _ rfl)) ?_;refine Ac (v:=iV O) rfl rfl rfl (λρ h=>Yl.move (h _ _ rfl)) ?_;let⟨ag,aY,aZ⟩:=bind_some aH;refine DL (aP.Ag ab) aY rfl rfl rfl rfl rfl Tryz.underlying22 Aw ?_;rintro a2 a3 _ rfl au;replace au:At Z a2 a3 [iV ag]:=au;refine Ac (v:=iV ag) rfl rfl rfl (λρ h=>Yl.load AD (h _ _ rfl) (At.AN (j:=0) au rfl)) ?_;refine Ac (v:=iV ag) rfl rfl rfl (λρ h=>Yl.assign (h _ _ rfl)) ?_;refine JL.done ?_;refine JL.seq ?_;refine JL.region ?_;refine Ac (v:=iV ae) rfl rfl rfl (λρ h=>Yl.move (h _ _ rfl)) ?_;refine Ac (v:=iV ag) rfl rfl rfl (λρ h=>Yl.move (h _ _ rfl)) ?_;let⟨K,a4,aI⟩:=bind_some aZ;refine JS.call (vs:=[iV ae,iV ag]) (UI a4) rfl rfl rfl (A4 Tryz.func105 rfl) rfl am ?_;rintro _ a5 _ aJ ⟨rfl,rfl⟩ aK;refine Ac (v:=iV K) rfl rfl rfl (λρ h=>Yl.assign (h _ _ rfl)) ?_;refine JL.done ?_;refine JL.seq ?_;refine JL.region ?_;refine Ac (v:=iV K) rfl rfl rfl (λρ h=>Yl.move (h _ _ rfl)) ?_;refine Ac (v:=.bool (decide (K≠0))) rfl rfl rfl (λρ h=>Cr (h _ _ rfl) (h _ _ rfl)) ?_;refine JL.done ?_;refine AU (p:=K≠0) rfl (λav=>?_) (λav=>?_);have aL:=aI;rw[d5 av] at aL;refine JL.seq ?_;refine JL.region ?_;refine Ac (v:=iV K) rfl rfl rfl (λρ h=>Yl.move (h _ _ rfl)) ?_;refine Ac (v:=iV K) rfl rfl rfl (λρ h=>Yl.assign (h _ _ rfl)) ?_;refine JL.done ?_;have bi:Y=.done (Sum.inl K):=(d0 aL).symm;subst Y;have bj:aa=Sum.inl K:=(an _ ac).symm;subst aa;have a6:=elim_inl ak;have bl:r=K:=(d0 a6).symm;subst r;refine JL.ret (v:=iV K) rfl rfl (Ay.list Tryz.func84 rfl (vs:=[iV K]) ⟨rfl,trivial⟩) ?_;exact ah _ _ _ _ (ab.trans aJ) rfl ⟨rfl,rfl⟩ aK;have aM:=aI;rw[d7 av] at aM;refine JL.skip ?_;refine Bv ?_;refine JL.region ?_;let⟨aj,a7,a8⟩:=bind_some aM;refine Ac (v:=iV aj) rfl rfl rfl (λρ h=>BH (h _ _ rfl) (h _ _ rfl) a7) ?_;refine Ac (v:=iV aj) rfl rfl rfl (λρ h=>Yl.move (h _ _ rfl)) ?_;refine JL.done ?_;have bm:Y=.more aj:=(d0 a8).symm;subst Y;refine Ap ?_ (aT _ _ aj ⟨a5,rfl,rfl,(ab.trans aJ),aK⟩ ac);exact⟨rfl,rfl,rfl,rfl,rfl,trivial⟩;have aN:=ao;rw[d7 ap] at aN;refine JL.exit rfl ?_;have bn:Y=.done (Sum.inr ()):=(d0 aN).symm;subst Y;have a9:aa=(Sum.inr ()):=(an _ ac).symm;refine Ap ?_ (aS _ _ ⟨(),Z,a9,rfl,rfl,ab,am⟩);exact⟨rfl,rfl,trivial⟩
def Mk(fuel:Nat)(p0:List Int)(p1:List Int)(K:Int):Option (BX (Int) ((Bool)⊕(Unit))):=
 Option.bind (
  if K<((p0).length:Int) then(
   some (decide (K<((p1).length:Int)))
  ) else(
   some false
  )
 ) λO=>
 if O=true then(
  (ix p0 (K)).bind λU=>
  (ix p1 (K)).bind λV=>
  if U≠V then(
   some (.done (Sum.inl false))
  ) else(
   (AR (K+1)).bind λY=>
   some (.more Y)
  )
 ) else(
  some (.done (Sum.inr ()))
 )
def f29(fuel:Nat)(p0:List Int)(p1:List Int):Option (Bool):=
 Option.bind (iter (Mk fuel p0 p1) fuel 0) λK=>
 Sum.elim (λr=>some r) (λO=>
 some (decide (((p0).length:Int)=((p1).length:Int)))
 ) K
variable{kc:Nat}
theorem Oj{O:Option Addr}{p0 p1:List Int}(aN:AK rI E a1 c2 (p0))(aO:AK rI E O kc (p1))(av:f29 fuel p0 p1=some r):Ax J 32 [.slice a1 (p0).length c2,.slice O (p1).length kc] E [] (λw E' B'=>w=.bool r/\B'=[]):=by
 refine Ax.enter Tryz.func32 rfl (d4 rfl) λQ a9 cs H aP aw=>?_;unfold f29 at av;refine JL.seq (JL.region ?_);refine Ac (v:=.bool false) rfl rfl rfl (λρ h=>Yl.assign (h _ _ rfl)) (JL.done ?_);refine JL.seq (JL.seq ?_);refine JL.region (Ac (v:=iV 0) rfl rfl rfl (λρ h=>Yl.assign (h _ _ rfl)) ?_);refine JL.done ?_;let⟨ah,aQ,ay⟩:=bind_some av;refine Bj (λL s=>∃(az:Unit) (ai:LH),ah=Sum.inr az/\L=[(0,.slice a1 (p0).length c2),(1,.slice O (p1).length kc)]/\s=Ae ai H []/\Le E ai/\Ak ai H []) ?_ ?_;rintro _ _ ⟨az,ai,rfl,rfl,rfl,aR,aS⟩;have aT:=elim_inr ay;refine JL.seq (JL.region ?_);refine Ac (v:=.slice a1 (p0).length c2) rfl rfl rfl (λρ h=>Yl.move (h _ _ rfl)) (Ac (v:=iV ((p0).length:Int)) rfl rfl rfl (λρ h=>Yl.len rfl Tryz.underlying22 (h _ _ rfl)) ?_);refine Ac (v:=.slice O (p1).length kc) rfl rfl rfl (λρ h=>Yl.move (h _ _ rfl)) (Ac (v:=iV ((p1).length:Int)) rfl rfl rfl (λρ h=>Yl.len rfl Tryz.underlying22 (h _ _ rfl)) ?_);refine Ac (v:=.bool (decide (((p0).length:Int)=((p1).length:Int)))) rfl rfl rfl (λρ h=>Yl.eql (h _ _ rfl) (h _ _ rfl)) (Ac (v:=.bool (decide (((p0).length:Int)=((p1).length:Int)))) rfl rfl rfl (λρ h=>Yl.assign (h _ _ rfl)) ?_);refine JL.done ?_;have ba:r=(decide (((p0).length:Int)=((p1).length:Int))):=(d0 aT).symm;subst r;exact JL.ret (v:=.bool (decide (((p0).length:Int)=((p1).length:Int)))) rfl rfl (Ay.list Tryz.func32 rfl (vs:=[.bool (decide (((p0).length:Int)=((p1).length:Int)))]) ⟨rfl,trivial⟩) (aw _ _ _ _ aR rfl ⟨rfl,rfl⟩ aS);intro aU;refine JL.block (Ap (L':=[(0,.slice a1 (p0).length c2),(1,.slice O (p1).length kc),(5,iV 0)]) ⟨rfl,rfl,rfl,trivial⟩ ?_);refine CG aQ (λL s K=>∃(Z:LH),L=[(0,.slice a1 (p0).length c2),(1,.slice O (p1).length kc),(5,iV K)]/\s=Ae Z H []/\Le E Z/\Ak Z H []) ⟨E,rfl,rfl,(Le.refl _),aP⟩ ?_;rintro _ _ K ⟨Z,rfl,rfl,ae,aA⟩ aB ⟨ab,aj⟩ aV;have aC:=aj;unfold Mk at aC;refine JL.seq (JL.seq ?_);refine JL.region (Ac (v:=iV K) rfl rfl rfl (λρ h=>Yl.move (h _ _ rfl)) ?_);refine Ac (v:=.slice a1 (p0).length c2) rfl rfl rfl (λρ h=>Yl.move (h _ _ rfl)) (Ac (v:=iV ((p0).length:Int)) rfl rfl rfl (λρ h=>Yl.len rfl Tryz.underlying22 (h _ _ rfl)) ?_);refine Ac (v:=.bool (decide (K<((p0).length:Int)))) rfl rfl rfl (λρ h=>Yl.lss (h _ _ rfl) (h _ _ rfl)) (Ac (v:=.bool (decide (K<((p0).length:Int)))) rfl rfl rfl (λρ h=>Yl.move (h _ _ rfl)) ?_);let⟨ac,aD,aE⟩:=bind_some aC;refine Dl [] (λL s=>∃(V:LH),L=[(0,.slice a1 (p0).length c2),(1,.slice O (p1).length kc),(5,iV K),(15,.bool ac)]/\s=Ae V H []/\Le Z V/\Ak V H []) ?_ ?_;rintro _ _ ⟨V,rfl,rfl,ag,an⟩;refine JL.done (CK (t:=ac) rfl (λao=>?_) (λao=>?_));have aF:=aE;rw[d5 ao] at aF;refine JL.skip ?_;refine JL.seq ?_;refine JL.block ?_;refine JL.seq ?_;refine DJ 8 mixed rfl (by decide+kernel) λY=>?_;refine JG.val (v:=.slice a1 (p0).length c2) 0 rfl Y (by decide+kernel) rfl rfl rfl (λρ h s' aa=>Yl.move (h _ _ rfl)) ?_;refine JG.val (v:=iV K) 1 rfl Y (by decide+kernel) rfl rfl rfl (λρ h s' aa=>Yl.move (h _ _ rfl)) ?_;let⟨ak,aW,aX⟩:=bind_some aF;refine G2 2 (aN.Ag (ae.trans ag)) aW rfl Y (by decide+kernel) rfl rfl rfl rfl rfl Tryz.underlying22 Aw ?_;rintro aY aZ _ rfl ap;replace ap:At V aY aZ [iV ak]:=ap;refine JG.val (v:=iV ak) 3 rfl Y (by decide+kernel) rfl rfl rfl (λρ h s' aa=>Yl.load AD (h _ _ rfl) (At.BS (j:=0) ap aa rfl)) ?_;refine JG.val (v:=.slice O (p1).length kc) 4 rfl Y (by decide+kernel) rfl rfl rfl (λρ h s' aa=>Yl.move (h _ _ rfl)) ?_;refine JG.val (v:=iV K) 5 rfl Y (by decide+kernel) rfl rfl rfl (λρ h s' aa=>Yl.move (h _ _ rfl)) ?_;let⟨al,a2,aG⟩:=bind_some aX;refine G2 6 (aO.Ag (ae.trans ag)) a2 rfl Y (by decide+kernel) rfl rfl rfl rfl rfl Tryz.underlying22 Aw ?_;rintro a3 a4 _ rfl aq;replace aq:At V a3 a4 [iV al]:=aq;refine JG.val (v:=iV al) 7 rfl Y (by decide+kernel) rfl rfl rfl (λρ h s' aa=>Yl.load AD (h _ _ rfl) (At.BS (j:=0) aq aa rfl)) ?_;refine AL.leaf (tail:=[8]) (by decide+kernel) (λt=>Bb (by decide+kernel) Cn t) ?_;refine Ac (v:=.bool (decide (ak≠al))) rfl rfl rfl (λρ h=>Cr (h _ _ rfl) (h _ _ rfl)) ?_;refine JL.done ?_;refine AU (p:=ak≠al) rfl (λar=>?_) (λar=>?_);have aH:=aG;rw[d5 ar] at aH;refine JL.seq ?_;refine JL.region ?_;refine Ac (v:=.bool false) rfl rfl rfl (λρ h=>Yl.assign (h _ _ rfl)) ?_;refine JL.done ?_;have bb:ab=.done (Sum.inl false):=(d0 aH).symm;subst ab;have be:ah=Sum.inl false:=(aB _ aj).symm;subst ah;have a5:=elim_inl ay;have bf:r=false:=(d0 a5).symm;subst r;refine JL.ret (v:=.bool false) rfl rfl (Ay.list Tryz.func32 rfl (vs:=[.bool false]) ⟨rfl,trivial⟩) ?_;exact aw _ _ _ _ (ae.trans ag) rfl ⟨rfl,rfl⟩ an;have aI:=aG;rw[d7 ar] at aI;refine JL.skip ?_;refine Bv ?_;refine JL.region ?_;refine Ac (v:=iV K) rfl rfl rfl (λρ h=>Yl.move (h _ _ rfl)) ?_;let⟨am,a6,a7⟩:=bind_some aI;refine Ac (v:=iV am) rfl rfl rfl (λρ h=>BH (h _ _ rfl) (h _ _ rfl) a6) ?_;refine Ac (v:=iV am) rfl rfl rfl (λρ h=>Yl.assign (h _ _ rfl)) ?_;refine JL.done ?_;have bg:ab=.more am:=(d0 a7).symm;subst ab;refine Ap ?_ (aV _ _ am ⟨V,rfl,rfl,(ae.trans ag),an⟩ aj);exact⟨rfl,rfl,rfl,trivial⟩;have aJ:=aE;rw[d7 (by rw[ao];exact f8)] at aJ;refine JL.exit rfl ?_;have bh:ab=.done (Sum.inr ()):=(d0 aJ).symm;subst ab;have a8:ah=(Sum.inr ()):=(aB _ aj).symm;refine Ap ?_ (aU _ _ ⟨(),V,a8,rfl,rfl,(ae.trans ag),an⟩);exact⟨rfl,rfl,trivial⟩;intro aK;refine DW (q:=K<((p0).length:Int)) (i:=10) rfl (λau=>?_) (λau=>?_);have aL:=aD;rw[d5 au] at aL;refine Ac (v:=iV K) rfl rfl rfl (λρ h=>Yl.move (h _ _ rfl)) ?_;refine Ac (v:=.slice O (p1).length kc) rfl rfl rfl (λρ h=>Yl.move (h _ _ rfl)) ?_;refine Ac (v:=iV ((p1).length:Int)) rfl rfl rfl (λρ h=>Yl.len rfl Tryz.underlying22 (h _ _ rfl)) ?_;refine Ac (v:=.bool (decide (K<((p1).length:Int)))) rfl rfl rfl (λρ h=>Yl.lss (h _ _ rfl) (h _ _ rfl)) ?_;refine Ac (v:=.bool (decide (K<((p1).length:Int)))) rfl rfl rfl (λρ h=>Ci (h _ _ rfl) (h _ _ rfl)) ?_;have bi:ac=(decide (K<((p1).length:Int))):=(d0 aL).symm;subst ac;refine Ap ?_ (aK _ _ ⟨Z,rfl,rfl,(Le.refl _),aA⟩);exact⟨rfl,rfl,rfl,rfl,trivial⟩;have aM:=aD;rw[d7 au] at aM;refine AP rfl rfl rfl ?_;refine AP rfl rfl rfl ?_;refine AP rfl rfl rfl ?_;refine AP rfl rfl rfl ?_;refine Ac (v:=.bool false) rfl rfl rfl (λρ h=>CF (h _ _ rfl) (h _ _ rfl)) ?_;have bj:ac=false:=(d0 aM).symm;subst ac;refine Ap ?_ (aK _ _ ⟨Z,rfl,rfl,(Le.refl _),aA⟩);exact⟨rfl,rfl,rfl,rfl,trivial⟩
def Mh(fuel:Nat)(p0:List Int)(p1:Int)(K:Int):Option (BX (Int) ((Int)⊕(Unit))):=
 if K<((p0).length:Int) then(
  (ix p0 (K)).bind λO=>
  if O=p1 then(
   some (.done (Sum.inl K))
  ) else(
   (AR (K+1)).bind λU=>
   some (.more U)
  )
 ) else(
  some (.done (Sum.inr ()))
 )
def f34(fuel:Nat)(p0:List Int)(p1:Int):Option (Int):=
 Option.bind (iter (Mh fuel p0 p1) fuel 0) λK=>
 Sum.elim (λr=>some r) (λO=>
 some (-1)
 ) K
theorem W8{p0:List Int}(aw:AK rI E a1 c2 (p0)){r:Int}(ak:f34 fuel p0 p1=some r):Ax J 9 [.slice a1 (p0).length c2,iV p1] E [] (λw E' B'=>w=iV r/\B'=[]):=by
 refine Ax.enter Tryz.func9 rfl (d4 rfl) λQ aM cs H ay al=>?_;unfold f34 at ak;refine JL.seq (JL.region ?_);refine Ac (v:=iV 0) rfl rfl rfl (λρ h=>Yl.assign (h _ _ rfl)) (JL.done ?_);refine JL.seq (JL.seq ?_);refine JL.region (Ac (v:=iV 0) rfl rfl rfl (λρ h=>Yl.assign (h _ _ rfl)) ?_);refine JL.done ?_;obtain⟨V,az,am⟩:=bind_some ak;refine Bj (λL s=>∃(an:Unit) (Y:LH),V=Sum.inr an/\L=[]/\s=Ae Y H []/\Le E Y/\Ak Y H []) ?_ ?_;rintro _ _ ⟨an,Y,rfl,rfl,rfl,aA,aB⟩;have aC:=elim_inr am;refine JL.seq (JL.region ?_);refine Ac (v:=iV (-1)) rfl rfl rfl (λρ h=>Yl.assign (h _ _ rfl)) (JL.done ?_);have aN:r=(-1):=(d0 aC).symm;subst r;exact JL.ret (v:=iV (-1)) rfl rfl (Ay.list Tryz.func9 rfl (vs:=[iV (-1)]) ⟨rfl,trivial⟩) (al _ _ _ _ aA rfl ⟨rfl,rfl⟩ aB);intro aD;refine JL.block (Ap (L':=[(0,.slice a1 (p0).length c2),(1,iV p1),(5,iV 0)]) ⟨rfl,rfl,rfl,trivial⟩ ?_);refine CG az (λL s K=>∃(O:LH),L=[(0,.slice a1 (p0).length c2),(1,iV p1),(5,iV K)]/\s=Ae O H []/\Le E O/\Ak O H []) ⟨E,rfl,rfl,(Le.refl _),ay⟩ ?_;rintro _ _ K ⟨O,rfl,rfl,Z,ae⟩ ao ⟨U,aa⟩ aE;have ag:=aa;unfold Mh at ag;refine JL.seq (JL.seq ?_);refine JL.region (Ac (v:=iV K) rfl rfl rfl (λρ h=>Yl.move (h _ _ rfl)) ?_);refine Ac (v:=.slice a1 (p0).length c2) rfl rfl rfl (λρ h=>Yl.move (h _ _ rfl)) (Ac (v:=iV ((p0).length:Int)) rfl rfl rfl (λρ h=>Yl.len rfl Tryz.underlying22 (h _ _ rfl)) ?_);refine Ac (v:=.bool (decide (K<((p0).length:Int)))) rfl rfl rfl (λρ h=>Yl.lss (h _ _ rfl) (h _ _ rfl)) (JL.done ?_);refine AU (p:=K<((p0).length:Int)) rfl (λah=>?_) (λah=>?_);have ap:=ag;rw[d5 ah] at ap;refine JL.skip ?_;refine JL.seq ?_;refine JL.block ?_;refine JL.seq ?_;refine JL.region ?_;refine Ac (v:=.slice a1 (p0).length c2) rfl rfl rfl (λρ h=>Yl.move (h _ _ rfl)) ?_;refine Ac (v:=iV K) rfl rfl rfl (λρ h=>Yl.move (h _ _ rfl)) ?_;let⟨ab,aF,aq⟩:=bind_some ap;refine DL (aw.Ag Z) aF rfl rfl rfl rfl rfl Tryz.underlying22 Aw ?_;rintro aG aH _ rfl ai;replace ai:At O aG aH [iV ab]:=ai;refine Ac (v:=iV ab) rfl rfl rfl (λρ h=>Yl.load AD (h _ _ rfl) (At.AN (j:=0) ai rfl)) ?_;refine Ac (v:=iV p1) rfl rfl rfl (λρ h=>Yl.move (h _ _ rfl)) ?_;refine Ac (v:=.bool (decide (ab=p1))) rfl rfl rfl (λρ h=>Yl.eql (h _ _ rfl) (h _ _ rfl)) ?_;refine JL.done ?_;refine AU (p:=ab=p1) rfl (λaj=>?_) (λaj=>?_);have ar:=aq;rw[d5 aj] at ar;refine JL.seq ?_;refine JL.region ?_;refine Ac (v:=iV K) rfl rfl rfl (λρ h=>Yl.move (h _ _ rfl)) ?_;refine Ac (v:=iV K) rfl rfl rfl (λρ h=>Yl.assign (h _ _ rfl)) ?_;refine JL.done ?_;have aO:U=.done (Sum.inl K):=(d0 ar).symm;subst U;have aP:V=Sum.inl K:=(ao _ aa).symm;subst V;have aI:=elim_inl am;have aQ:r=K:=(d0 aI).symm;subst r;refine JL.ret (v:=iV K) rfl rfl (Ay.list Tryz.func9 rfl (vs:=[iV K]) ⟨rfl,trivial⟩) ?_;exact al _ _ _ _ Z rfl ⟨rfl,rfl⟩ ae;have au:=aq;rw[d7 aj] at au;refine JL.skip ?_;refine Bv ?_;refine JL.region ?_;refine Ac (v:=iV K) rfl rfl rfl (λρ h=>Yl.move (h _ _ rfl)) ?_;let⟨ac,aJ,aK⟩:=bind_some au;refine Ac (v:=iV ac) rfl rfl rfl (λρ h=>BH (h _ _ rfl) (h _ _ rfl) aJ) ?_;refine Ac (v:=iV ac) rfl rfl rfl (λρ h=>Yl.assign (h _ _ rfl)) ?_;refine JL.done ?_;have aR:U=.more ac:=(d0 aK).symm;subst U;refine Ap ?_ (aE _ _ ac ⟨O,rfl,rfl,Z,ae⟩ aa);exact⟨rfl,rfl,rfl,trivial⟩;have av:=ag;rw[d7 ah] at av;refine JL.exit rfl ?_;have aS:U=.done (Sum.inr ()):=(d0 av).symm;subst U;have aL:V=(Sum.inr ()):=(ao _ aa).symm;refine Ap ?_ (aD _ _ ⟨(),O,aL,rfl,rfl,Z,ae⟩);exact trivial
def Jm(fuel:Nat)(p0:(List Int)×(List Int))(p1:(List Int)×(List Int)):Option (Bool):=
 (f29 fuel p0.1 p1.1).bind λK=>
 Option.bind (
  if K=true then(
   (f29 fuel p0.2 p1.2).bind λO=>
   some O
  ) else(
   some false
  )
 ) λU=>
 some U
theorem Qc{Y aa:Option Addr}{ab:Nat}{p0:(List Int)×(List Int)}{p1:(List Int)×(List Int)}(ay:AK rI E a1 c2 (p0.1))(az:AK rI E U V (p0.2))(aA:AK rI E Y kc (p1.1))(aB:AK rI E aa ab (p1.2))(am:Jm fuel p0 p1=some r):Ax J 11 [.agg #[.slice a1 (p0.1).length c2,.slice U (p0.2).length V],.agg #[.slice Y (p1.1).length kc,.slice aa (p1.2).length ab]] E [] (λw E' B'=>w=.bool r/\B'=[]):=by
 refine Ax.enter Tryz.func11 rfl (d4 rfl) λQ aV cs H aC aD=>?_;unfold Jm at am;refine JL.seq (JL.region ?_);refine JS.box (v:=.agg #[.slice a1 (p0.1).length c2,.slice U (p0.2).length V]) rfl rfl rfl aC rfl λac aE=>A8 1 aE rfl λaF ae ai aG=>?_;replace ai:At aF ac 0 [.slice a1 (p0.1).length c2,.slice U (p0.2).length V]:=ai;refine JS.box (v:=.agg #[.slice Y (p1.1).length kc,.slice aa (p1.2).length ab]) rfl rfl rfl aG rfl λag aH=>A8 2 aH rfl λaI O aj aJ=>?_;replace aj:At aI ag 0 [.slice Y (p1.1).length kc,.slice aa (p1.2).length ab]:=aj;refine Ac (v:=.bool false) rfl rfl rfl (λρ h=>Yl.assign (h _ _ rfl)) (JL.done ?_);refine JL.seq (JL.region ?_);refine Ac (v:=.pointer (some ⟨ac,0,none⟩)) rfl rfl rfl (λρ h=>Aq (a:=⟨ac,0,none⟩) 0 0 Tryz.underlying42 Ch rfl rfl rfl (h _ _ rfl)) (Ac (v:=.slice a1 (p0.1).length c2) rfl rfl rfl (λρ h=>Yl.load CV (h _ _ rfl) (At.AN (j:=0) (ai.Ag O) rfl)) ?_);refine Ac (v:=.pointer (some ⟨ag,0,none⟩)) rfl rfl rfl (λρ h=>Aq (a:=⟨ag,0,none⟩) 0 0 Tryz.underlying42 Ch rfl rfl rfl (h _ _ rfl)) (Ac (v:=.slice Y (p1.1).length kc) rfl rfl rfl (λρ h=>Yl.load CV (h _ _ rfl) (At.AN (j:=0) aj rfl)) ?_);let⟨an,aK,aL⟩:=bind_some am;refine JS.call (vs:=[.slice a1 (p0.1).length c2,.slice Y (p1.1).length kc]) (Oj (ay.Ag (ae.trans O)) (aA.Ag (ae.trans O)) aK) rfl rfl rfl M3 rfl aJ ?_;rintro _ ao _ ah ⟨rfl,rfl⟩ aM;refine AT (S':=[[],[],[],[]]) rfl aM λap=>Ac (v:=.bool an) rfl rfl rfl (λρ h=>Yl.move (h _ _ rfl)) ?_;let⟨K,aq,aN⟩:=bind_some aL;refine Dl [12] (λL s=>∃(ak:LH),L=[(16,.bool K)]/\s=Ae ak H []/\Le ao ak/\Ak ak H []) ?_ ?_;rintro _ _ ⟨ak,rfl,rfl,aO,aP⟩;refine Ac (v:=.bool K) rfl rfl rfl (λρ h=>Yl.assign (h _ _ rfl)) (JL.done ?_);have aW:r=K:=(d0 aN).symm;subst r;exact JL.ret (v:=.bool K) rfl rfl (Ay.list Tryz.func11 rfl (vs:=[.bool K]) ⟨rfl,trivial⟩) (aD _ _ _ _ (((ae.trans O).trans ah).trans aO) rfl ⟨rfl,rfl⟩ aP);intro ar;refine EY (c:=an) (i:=10) rfl (λal=>?_) (λal=>?_);have au:=aq;rw[d5 al] at au;refine Ac (v:=.pointer (some ⟨ac,1,none⟩)) rfl rfl rfl (λρ h=>Aq (a:=⟨ac,0,none⟩) 0 1 Tryz.underlying42 Ch rfl rfl rfl (h _ _ rfl)) ?_;refine Ac (v:=.slice U (p0.2).length V) rfl rfl rfl (λρ h=>Yl.load CV (h _ _ rfl) (At.AN (j:=1) (ai.Ag (O.trans ah)) rfl)) ?_;refine Ac (v:=.pointer (some ⟨ag,1,none⟩)) rfl rfl rfl (λρ h=>Aq (a:=⟨ag,0,none⟩) 0 1 Tryz.underlying42 Ch rfl rfl rfl (h _ _ rfl)) ?_;refine Ac (v:=.slice aa (p1.2).length ab) rfl rfl rfl (λρ h=>Yl.load CV (h _ _ rfl) (At.AN (j:=1) (aj.Ag ah) rfl)) ?_;let⟨av,aQ,aR⟩:=bind_some au;refine JS.call (vs:=[.slice U (p0.2).length V,.slice aa (p1.2).length ab]) (Oj (az.Ag ((ae.trans O).trans ah)) (aB.Ag ((ae.trans O).trans ah)) aQ) rfl rfl rfl M3 rfl ap ?_;rintro _ aS _ aT ⟨rfl,rfl⟩ aU;refine Ac (v:=.bool av) rfl rfl rfl (λρ h=>Ci (h _ _ rfl) (h _ _ rfl)) ?_;have aX:K=av:=(d0 aR).symm;subst K;refine Ap ?_ (ar _ _ ⟨aS,rfl,rfl,aT,aU⟩);exact⟨rfl,trivial⟩;have aw:=aq;rw[d7 (by rw[al];exact f8)] at aw;refine AP rfl rfl rfl ?_;refine AP rfl rfl rfl ?_;refine AP rfl rfl rfl ?_;refine AP rfl rfl rfl ?_;refine AP rfl rfl rfl ?_;refine Ac (v:=.bool false) rfl rfl rfl (λρ h=>CF (h _ _ rfl) (h _ _ rfl)) ?_;have aY:K=false:=(d0 aw).symm;subst K;refine Ap ?_ (ar _ _ ⟨ao,rfl,rfl,(Le.refl _),ap⟩);exact⟨rfl,trivial⟩
end Pal
set_option autoImplicit false
open Go
namespace Pal
open Go Go.Conc
variable {P:Program}{J:Judge P}{Q:Gs_}{b:Frame}{ds:Ld_}{ops:Ao_}{k:Li_}{cs:Lf_}{m fuel:Nat}{D:Nat->Bool}{listed:Array Bool}{L:Env}{s:St}{E E' H:LH}{S:List Seg}
variable {d:Option Tmp}{x y:Operand}{t u ty e:TypeId}{p:String}{af:Ae_}{g:On_}{v:Value}{i:Nat}{rest:List Nat}
variable{f:FuncId}{first vs:Lv_}{args:Array Operand}{ats:Array TypeId}
section
variable {n:Nat}
theorem Sq{R:Value->St->Prop}(U:s.q=false)(V:Region.ready .any ops listed=[i])
  (Y:ops[i]?=some ⟨d,.call ⟨.value x,args,ats⟩,ty,p,af,g⟩) (Z:ev L x=some (.func (.func f) first.toArray #[])) (aa:A5 n d=true) (hw:AO L ops ⟨d,.call ⟨.value x,args,ats⟩,ty,p,af,g⟩=some true) (hb:Dd P f=true) (ab:evs L args.toList=some vs)
  (ac:CZ J f (first++vs).toArray s R) (h:∀v K,R v K->K.q=false/\(∀x o,(A2 D s).E x=some o->(A2 D K).E x=some o)/\AL J Q b n ds ops k cs m D fuel (AZ listed i) (Az L d v) K):
  AL J Q b n ds ops k cs m D (fuel+1) listed L s:=by
 refine AL.one U V Y (by simp[CX,aa]) hw λρ O=>?_;have ae:args.map ρ=vs.toArray:=by
  rw[← F6 O ab];apply lJ;simp
 have ag:ρ x=.func (.func f) first.toArray #[]:=O _ _ Z
 simp only[execOp,resolve,bind,Sem.bind,Deferred.ofValue,ag,pure,invoke];have e:first.toArray++args.map ρ++ #[]=(first++vs).toArray:=by rw[ae];simp
 rw[e];refine Iv hb ?_;rw[I3];exact⟨R,ac,h⟩
theorem SK{bks:List Nat}{R:Value->LH->Seg->Prop}(ab:Hw S bks)(ac:Ax J f (first++vs) E [] R)(ae:Region.ready .any ops listed=[i])
  (ag:ops[i]?=some ⟨d,.call ⟨.value x,args,ats⟩,ty,p,af,g⟩) (K:ev L x=some (.func (.func f) first.toArray #[])) (ah:A5 n d=true) (hw:AO L ops ⟨d,.call ⟨.value x,args,ats⟩,ty,p,af,g⟩=some true) (hb:Dd P f=true) (ai:evs L args.toList=some vs) (V:Ak E H S)
  (aj:∀v E' seg',Le E E'->R v E' seg'->Ak E' H (S++ [seg'])->AL J Q b n ds ops k cs m (AW bks) fuel (AZ listed i) (Az L d v) (Ae E' H (S++ [seg']))):
  AL J Q b n ds ops k cs m (AW bks) (fuel+1) listed L (Ae E H S):=by
 have ak:=CZ.JC (ac (AS S.flatten H) trivial) (by rintro v s' ⟨E',B',_,_,_,rfl⟩;rfl);refine Sq rfl ae ag K ah hw hb ai ak ?_;rintro v ar ⟨⟨E',B',hle,al,am,rfl⟩,w,an⟩;have e2:mk E' (AS S.flatten H) B'=mk E' H (B'++S.flatten):=by unfold mk;rw[EI]
 have ao:Nd E' H S.flatten:=Nd.grow V λx K=>by
  have h0:=an.d x K;have h1:AS B' (AS S.flatten H) x=none:=h0;exact(GX h1).1
 have Y:Nd E' H (B'++S.flatten):=Nd.glue am ao;have Z:(B'++S.flatten).Perm (S++ [B']).flatten:=by rw[IC];exact kK
 have aa:Ak E' H (S++ [B']):=Nd.perm Y Z;rw[e2,Ez Y Z];refine⟨rfl,λx o K=>?_,aj v E' B' hle al aa⟩;by_cases hd:AW bks x=true
 .obtain⟨j,o',U⟩:=ab.mem x (by simpa [AW] using hd);have h1:(Ae E H S).get x=some o':=Dp (i:=0) V U rfl;have ap:j<S.length:=(d8.1 U).1;have aq:(Ae E' H (S++ [B'])).get x=some o':=Dp (i:=0) aa (by rw[kN ap];exact U) rfl;have O:(if AW bks x then(Ae E H S).get x else E x)=some o:=K
  show(if AW bks x then(Ae E' H (S++ [B'])).get x else E' x)=some o
  rw[d5 hd] at O ⊢;rw[aq,← h1];exact O
 .have O:(if AW bks x then(Ae E H S).get x else E x)=some o:=K
  show(if AW bks x then(Ae E' H (S++ [B'])).get x else E' x)=some o
  rw[d7 hd] at O ⊢;exact hle _ _ O
end
open Go.Proofs
def H9(fuel:Nat)(pb:Int)(p1:Nat×Nat)(p2:Nat×Nat):Option (Int):=
 (FX pb).bind λU=>
 (Hp ((U+(256 - 1))%256) p1.1).bind λK=>
 (Hp ((U+(256 - 1))%256) p2.1).bind λO=>
 (HB fuel K).bind λY=>
 (HB fuel O).bind λZ=>
 if Y≠Z then(
  (HB fuel K).bind λaa=>
  (HB fuel O).bind λab=>
  (AR (aa - ab)).bind λac=>
  some ac
 ) else(
  (G5 fuel K).bind λae=>
  (G5 fuel O).bind λag=>
  (Jx fuel ae ag).bind λV=>
  if V≠0 then(
   some V
  ) else(
   (G5 fuel p1.2).bind λah=>
   (G5 fuel p2.2).bind λai=>
   (Jx fuel ah ai).bind λaj=>
   some aj
  )
 )
variable{pb pf:Int}{wv:Value}
theorem TL{J:Judge Tryz.prog}{E:LH}{p1 p2:Nat×Nat}{fuel:Nat}{r:Int}(aw:H9 fuel pb p1 p2=some r):Ax J 54 [.agg #[iV pb,iV pf,wv],.agg #[.int .u8 ((p1.1:Nat):Int),.int .u8 ((p1.2:Nat):Int)],.agg #[.int .u8 ((p2.1:Nat):Int),.int .u8 ((p2.2:Nat):Int)]] E [] (λw E' B'=>w=iV r/\B'=[]):=by
 refine Ax.enter Tryz.func54 rfl (d4 rfl) λQ bX cs H aJ ap=>?_;unfold H9 at aw;refine JL.seq (JL.region ?_);refine JS.box (v:=.agg #[iV pb,iV pf,wv]) rfl rfl rfl aJ rfl λr2 aK=>A8 1 aK rfl λaL aq ar aM=>?_;replace ar:At aL r2 0 [iV pb,iV pf,wv]:=ar;refine JS.box (v:=.agg #[.int .u8 ((p1.1:Nat):Int),.int .u8 ((p1.2:Nat):Int)]) rfl rfl rfl aM rfl λaa aN=>A8 2 aN rfl λaO aj ak aP=>?_;replace ak:At aO aa 0 [.int .u8 ((p1.1:Nat):Int),.int .u8 ((p1.2:Nat):Int)]:=ak;refine JS.box (v:=.agg #[.int .u8 ((p2.1:Nat):Int),.int .u8 ((p2.2:Nat):Int)]) rfl rfl rfl aP rfl λab aQ=>A8 3 aQ rfl λaR Z al aS=>?_;replace al:At aR ab 0 [.int .u8 ((p2.1:Nat):Int),.int .u8 ((p2.2:Nat):Int)]:=al;refine AT (S':=[[],[],[],[]]) rfl aS λaT=>Ac (v:=iV 0) rfl rfl rfl (λρ h=>Yl.assign (h _ _ rfl)) (JL.done ?_);refine JL.seq (JL.region ?_);refine Ac (v:=.pointer (some ⟨r2,0,none⟩)) rfl rfl rfl (λρ h=>Aq (a:=⟨r2,0,none⟩) 2 0 Tryz.underlying81 FF rfl rfl rfl (h _ _ rfl)) (Ac (v:=.pointer (some ⟨r2,0,none⟩)) rfl rfl rfl (λρ h=>Aq (a:=⟨r2,0,none⟩) 0 0 Tryz.underlying40 Aw rfl rfl rfl (h _ _ rfl)) ?_);refine Ac (v:=iV pb) rfl rfl rfl (λρ h=>Yl.load AD (h _ _ rfl) (At.AN (j:=0) (ar.Ag (aj.trans Z)) rfl)) ?_;obtain⟨ac,aU,aV⟩:=bind_some aw;refine Ac (v:=.int .u8 ((ac:Nat):Int)) rfl rfl rfl (λρ h=>Ko (h _ _ rfl) (h _ _ rfl) aU) (Ac (v:=.int .u8 ((((ac+(256 - 1))%256):Nat):Int)) rfl rfl rfl (λρ h=>PQ (h _ _ rfl) (h _ _ rfl) (by decide)) ?_);refine Ac (v:=.int .u8 ((((ac+(256 - 1))%256):Nat):Int)) rfl rfl rfl (λρ h=>Yl.assign (h _ _ rfl)) (JL.done ?_);refine JL.seq (DJ 9 mixed rfl (by decide+kernel) λO=>?_);refine JG.val (v:=.int .u8 ((((ac+(256 - 1))%256):Nat):Int)) 0 rfl O (by decide+kernel) rfl rfl rfl (λρ h s' K=>Yl.move (h _ _ rfl)) (JG.val (v:=.pointer (some ⟨aa,0,none⟩)) 1 rfl O (by decide+kernel) rfl rfl rfl (λρ h s' K=>Aq (a:=⟨aa,0,none⟩) 0 0 Tryz.underlying89 DU rfl rfl rfl (h _ _ rfl)) ?_);refine JG.val (v:=.int .u8 ((p1.1:Nat):Int)) 2 rfl O (by decide+kernel) rfl rfl rfl (λρ h s' K=>Yl.load Eu (h _ _ rfl) (At.BS (j:=0) (ak.Ag Z) K rfl)) ?_;obtain⟨V,aW,aX⟩:=bind_some aV;refine JG.val (v:=.int .u8 ((V:Nat):Int)) 3 rfl O (by decide+kernel) rfl rfl rfl (λρ h s' K=>Na (h _ _ rfl) (h _ _ rfl) aW) (JG.val (v:=.int .u8 ((((ac+(256 - 1))%256):Nat):Int)) 4 rfl O (by decide+kernel) rfl rfl rfl (λρ h s' K=>Yl.move (h _ _ rfl)) ?_);refine JG.val (v:=.pointer (some ⟨ab,0,none⟩)) 5 rfl O (by decide+kernel) rfl rfl rfl (λρ h s' K=>Aq (a:=⟨ab,0,none⟩) 0 0 Tryz.underlying89 DU rfl rfl rfl (h _ _ rfl)) (JG.val (v:=.int .u8 ((p2.1:Nat):Int)) 6 rfl O (by decide+kernel) rfl rfl rfl (λρ h s' K=>Yl.load Eu (h _ _ rfl) (At.BS (j:=0) al K rfl)) ?_);let⟨Y,aY,aZ⟩:=bind_some aX;refine JG.val (v:=.int .u8 ((Y:Nat):Int)) 7 rfl O (by decide+kernel) rfl rfl rfl (λρ h s' K=>Na (h _ _ rfl) (h _ _ rfl) aY) (JG.val (v:=.int .u8 ((V:Nat):Int)) 8 rfl O (by decide+kernel) rfl rfl rfl (λρ h s' K=>Yl.assign (h _ _ rfl)) ?_);refine AL.leaf (tail:=[9]) (by decide+kernel) (λt=>Bb (by decide+kernel) Cn t) (Ac (v:=.int .u8 ((Y:Nat):Int)) rfl rfl rfl (λρ h=>Yl.assign (h _ _ rfl)) ?_);refine JL.done (JL.seq ?_);refine JL.seq (JL.region ?_);refine Ac (v:=.int .u8 ((V:Nat):Int)) rfl rfl rfl (λρ h=>Yl.move (h _ _ rfl)) ?_;let⟨ay,a2,a3⟩:=bind_some aZ;refine JS.call (vs:=[.int .u8 ((V:Nat):Int)]) (Kv a2) rfl rfl rfl J4 rfl aT ?_;rintro _ bY _ ae ⟨rfl,rfl⟩ a4;refine Ac (v:=.int .u8 ((Y:Nat):Int)) rfl rfl rfl (λρ h=>Yl.move (h _ _ rfl)) ?_;let⟨az,a5,aA⟩:=bind_some a3;refine JS.call (vs:=[.int .u8 ((Y:Nat):Int)]) (Kv a5) rfl rfl rfl J4 rfl a4 ?_;rintro _ bZ _ ag ⟨rfl,rfl⟩ aB;refine Ac (v:=.bool (decide (ay≠az))) rfl rfl rfl (λρ h=>Cr (h _ _ rfl) (h _ _ rfl)) (JL.done ?_);refine AU (p:=ay≠az) rfl (λau=>?_) (λau=>?_);have aC:=aA;rw[d5 au] at aC;refine JL.seq ?_;refine JL.region ?_;refine Ac (v:=.int .u8 ((V:Nat):Int)) rfl rfl rfl (λρ h=>Yl.move (h _ _ rfl)) ?_;let⟨b2,a6,a7⟩:=bind_some aC;refine JS.call (vs:=[.int .u8 ((V:Nat):Int)]) (Kv a6) rfl rfl rfl J4 rfl aB ?_;rintro _ b3 _ a8 ⟨rfl,rfl⟩ a9;refine AT (S':=[[],[],[],[],[],[],[]]) rfl a9 λba=>?_;refine Ac (v:=.int .u8 ((Y:Nat):Int)) rfl rfl rfl (λρ h=>Yl.move (h _ _ rfl)) ?_;let⟨b4,bb,be⟩:=bind_some a7;refine JS.call (vs:=[.int .u8 ((Y:Nat):Int)]) (Kv bb) rfl rfl rfl J4 rfl ba ?_;rintro _ b5 _ bf ⟨rfl,rfl⟩ bg;let⟨ah,bh,bi⟩:=bind_some be;refine Ac (v:=iV ah) rfl rfl rfl (λρ h=>BP (h _ _ rfl) (h _ _ rfl) bh) ?_;refine Ac (v:=iV ah) rfl rfl rfl (λρ h=>Yl.assign (h _ _ rfl)) ?_;refine JL.done ?_;have b6:r=ah:=(d0 bi).symm;subst r;refine JL.ret (v:=iV ah) rfl rfl (Ay.list Tryz.func54 rfl (vs:=[iV ah]) ⟨rfl,trivial⟩) ?_;exact ap _ _ _ _ ((((((aq.trans aj).trans Z).trans ae).trans ag).trans a8).trans bf) rfl ⟨rfl,rfl⟩ bg;have aD:=aA;rw[d7 au] at aD;refine JL.skip ?_;refine JL.seq ?_;refine JL.seq ?_;refine JL.region ?_;refine Ac (v:=.int .u8 ((V:Nat):Int)) rfl rfl rfl (λρ h=>Yl.move (h _ _ rfl)) ?_;let⟨bj,bl,bm⟩:=bind_some aD;refine JS.call (vs:=[.int .u8 ((V:Nat):Int)]) (Jc bl) rfl rfl rfl IX rfl aB ?_;rintro _ b7 _ am ⟨bn,bo,rfl,rfl,bp⟩ bq;refine AT (S':=[[],[],[],[],[],[],[]]) rfl bq λbr=>?_;refine Ac (v:=.int .u8 ((Y:Nat):Int)) rfl rfl rfl (λρ h=>Yl.move (h _ _ rfl)) ?_;let⟨bu,bv,bw⟩:=bind_some bm;refine JS.call (vs:=[.int .u8 ((Y:Nat):Int)]) (Jc bv) rfl rfl rfl IX rfl br ?_;rintro _ b8 _ ai ⟨bx,bz,rfl,rfl,bA⟩ bB;let⟨U,bC,aE⟩:=bind_some bw;refine JS.call (vs:=[.slice bn (bj).length bo,.slice bx (bu).length bz]) (P5 (bp.Ag ai) bA bC) rfl rfl rfl (A4 Tryz.func84 rfl) rfl bB ?_;rintro _ b9 _ an ⟨rfl,rfl⟩ aF;refine Ac (v:=iV U) rfl rfl rfl (λρ h=>Yl.assign (h _ _ rfl)) ?_;refine JL.done ?_;refine JL.seq ?_;refine JL.region ?_;refine Ac (v:=iV U) rfl rfl rfl (λρ h=>Yl.move (h _ _ rfl)) ?_;refine Ac (v:=.bool (decide (U≠0))) rfl rfl rfl (λρ h=>Cr (h _ _ rfl) (h _ _ rfl)) ?_;refine JL.done ?_;refine AU (p:=U≠0) rfl (λav=>?_) (λav=>?_);have aG:=aE;rw[d5 av] at aG;refine JL.seq ?_;refine JL.region ?_;refine Ac (v:=iV U) rfl rfl rfl (λρ h=>Yl.move (h _ _ rfl)) ?_;refine Ac (v:=iV U) rfl rfl rfl (λρ h=>Yl.assign (h _ _ rfl)) ?_;refine JL.done ?_;have ca:r=U:=(d0 aG).symm;subst r;refine JL.ret (v:=iV U) rfl rfl (Ay.list Tryz.func54 rfl (vs:=[iV U]) ⟨rfl,trivial⟩) ?_;exact ap _ _ _ _ (((((((aq.trans aj).trans Z).trans ae).trans ag).trans am).trans ai).trans an) rfl ⟨rfl,rfl⟩ aF;have aH:=aE;rw[d7 av] at aH;refine JL.skip ?_;refine JL.seq ?_;refine DJ 5 mixed rfl (by decide+kernel) λO=>?_;refine JG.val (v:=.pointer (some ⟨aa,1,none⟩)) 0 rfl O (by decide+kernel) rfl rfl rfl (λρ h s' K=>Aq (a:=⟨aa,0,none⟩) 0 1 Tryz.underlying89 DU rfl rfl rfl (h _ _ rfl)) ?_;refine JG.val (v:=.int .u8 ((p1.2:Nat):Int)) 1 rfl O (by decide+kernel) rfl rfl rfl (λρ h s' K=>Yl.load Eu (h _ _ rfl) (At.BS (j:=1) (ak.Ag (((((Z.trans ae).trans ag).trans am).trans ai).trans an)) K rfl)) ?_;refine JG.val (v:=.pointer (some ⟨ab,1,none⟩)) 3 rfl O (by decide+kernel) rfl rfl rfl (λρ h s' K=>Aq (a:=⟨ab,0,none⟩) 0 1 Tryz.underlying89 DU rfl rfl rfl (h _ _ rfl)) ?_;refine JG.val (v:=.int .u8 ((p2.2:Nat):Int)) 4 rfl O (by decide+kernel) rfl rfl rfl (λρ h s' K=>Yl.load Eu (h _ _ rfl) (At.BS (j:=1) (al.Ag ((((ae.trans ag).trans am).trans ai).trans an)) K rfl)) ?_;let⟨bD,bE,bF⟩:=bind_some aH;refine JG.call (i:=2) (vs:=[.int .u8 ((p1.2:Nat):Int)]) (Jc bE) (by decide+kernel) rfl rfl rfl IX rfl aF ?_;rintro _ cb _ bG ⟨bH,bI,rfl,rfl,bJ⟩ bK;refine AL.leaf (tail:=[5,6,7]) (by decide+kernel) (λt=>Bb (by decide+kernel) (Bb (by decide+kernel) (Bb (by decide+kernel) Cn)) t) ?_;let⟨bL,bM,bN⟩:=bind_some bF;refine JS.call (vs:=[.int .u8 ((p2.2:Nat):Int)]) (Jc bM) rfl rfl rfl IX rfl bK ?_;rintro _ cc _ aI ⟨bO,bP,rfl,rfl,bQ⟩ bR;refine AT (S':=[[],[],[],[],[],[],[],[],[],[],[]]) rfl bR λbS=>?_;let⟨ao,bT,bU⟩:=bind_some bN;refine JS.call (vs:=[.slice bH (bD).length bI,.slice bO (bL).length bP]) (P5 (bJ.Ag aI) bQ bT) rfl rfl rfl (A4 Tryz.func84 rfl) rfl bS ?_;rintro _ cd _ bV ⟨rfl,rfl⟩ bW;refine Ac (v:=iV ao) rfl rfl rfl (λρ h=>Yl.assign (h _ _ rfl)) ?_;refine JL.done ?_;have ce:r=ao:=(d0 bU).symm;subst r;refine JL.ret (v:=iV ao) rfl rfl (Ay.list Tryz.func54 rfl (vs:=[iV ao]) ⟨rfl,trivial⟩) ?_;exact ap _ _ _ _ ((((((((((aq.trans aj).trans Z).trans ae).trans ag).trans am).trans ai).trans an).trans bG).trans aI).trans bV) rfl ⟨rfl,rfl⟩ bW
def LS(fuel:Nat)(p1:Int)(pb:Int)(K:Int×(List (Nat×Nat))):Option (BX (Int×(List (Nat×Nat))) ((List (Nat×Nat)))):=
 Option.bind (
  if p1<K.1 then(
   (ix K.2 (K.1)).bind λV=>
   (AR (K.1 - 1)).bind λY=>
   (ix K.2 (Y)).bind λZ=>
   (H9 fuel pb V Z).bind λaa=>
   some (decide (aa<0))
  ) else(
   some false
  )
 ) λab=>
 if ab=true then(
  (AR (K.1 - 1)).bind λO=>
  (AR (K.1 - 1)).bind λac=>
  (ix K.2 (ac)).bind λU=>
  (ix K.2 (K.1)).bind λae=>
  (ix (K.2.set (Int.toNat K.1) U) (O)).bind λah=>
  (AR (K.1 - 1)).bind λag=>
  some (.more (ag,((K.2.set (Int.toNat K.1) U).set (Int.toNat O) ae)))
 ) else(
  some (.done K.2)
 )
def ND(fuel:Nat)(p1:Int)(p2:Int)(pb:Int)(K:Int×(List (Nat×Nat))):Option (BX (Int×(List (Nat×Nat))) ((List (Nat×Nat)))):=
 if K.1<p2 then(
  Option.bind (iter (LS fuel p1 pb) fuel K) λO=>
  (AR (K.1+1)).bind λU=>
  some (.more (U,O))
 ) else(
  some (.done K.2)
 )
def KO(fuel:Nat)(p0:List (Nat×Nat))(p1:Int)(p2:Int)(pb:Int):Option ((List (Nat×Nat))):=
 (AR (p1+1)).bind λK=>
 Option.bind (iter (ND fuel p1 p2 pb) fuel (K,p0)) λO=>
 some O
variable{K Y nw:Nat}{p0:List (Nat×Nat)}{p1 p2:Int}{r:(List (Nat×Nat))}
theorem Va{J:Judge Tryz.prog}{E:LH}{aD:Av_}(hW:WL 89 (rP (rN .u8) (rN .u8)) E K Y nw aD p0){fuel:Nat}(aT:KO fuel p0 p1 p2 pb=some r):Ax J 94 [.slice (some ⟨K,0,none⟩) nw Y,iV p1,iV p2,(.func (.func 54) #[.agg #[iV pb,iV pf,wv]] #[])] E [(K,.cells aD 89 (0,0))] (λw E' B'=>∃(aU:Av_),w=.tuple #[]/\B'=[(K,.cells aU 89 (0,0))]/\WL 89 (rP (rN .u8) (rN .u8)) E' K Y nw aU (r)):=by
 refine Ax.enter Tryz.func94 rfl (d4 rfl) λQ b6 cs H bj bl=>?_;unfold KO at aT;refine JL.seq (JL.region ?_);refine Ac (v:=iV p1) rfl rfl rfl (λρ h=>Yl.move (h _ _ rfl)) ?_;let⟨aE,bm,bn⟩:=bind_some aT;refine Ac (v:=iV aE) rfl rfl rfl (λρ h=>BH (h _ _ rfl) (h _ _ rfl) bm) (Ac (v:=iV aE) rfl rfl rfl (λρ h=>Yl.assign (h _ _ rfl)) ?_);refine JL.done ?_;let⟨av,bo,bp⟩:=bind_some bn;refine Bj (λL s=>∃(ap:LH) (f17:Av_),L=[]/\s=Ae ap H [[(K,.cells f17 89 (0,0))]]/\Le E ap/\Ak ap H [[(K,.cells f17 89 (0,0))]]/\WL 89 (rP (rN .u8) (rN .u8)) ap K Y nw f17 (av)) ?_ ?_;rintro _ _ ⟨ap,f17,rfl,rfl,bq,br,bu⟩;have b7:r=av:=(d0 bp).symm;subst r;exact JL.fin (v:=.tuple #[]) rfl rfl (Ay.list Tryz.func94 rfl (vs:=[]) trivial) (bl _ _ _ _ bq rfl ⟨f17,rfl,(by first | rfl | simp | (simp[Value.cells])),bu⟩ br)
 .intro bv;refine JL.block (Ap (L':=[(0,.slice (some ⟨K,0,none⟩) nw Y),(1,iV p1),(2,iV p2),(3,(.func (.func 54) #[.agg #[iV pb,iV pf,wv]] #[])),(8,iV aE)]) ⟨rfl,rfl,rfl,rfl,rfl,trivial⟩ ?_);refine CG bo (λL s ab=>∃(ae:LH) (f25:Av_),L=[(0,.slice (some ⟨K,0,none⟩) nw Y),(1,iV p1),(2,iV p2),(3,(.func (.func 54) #[.agg #[iV pb,iV pf,wv]] #[])),(8,iV ab.1)]/\s=Ae ae H [[(K,.cells f25 89 (0,0))]]/\Le E ae/\Ak ae H [[(K,.cells f25 89 (0,0))]]/\WL 89 (rP (rN .u8) (rN .u8)) ae K Y nw f25 (ab.2)) ⟨E,aD,rfl,rfl,(Le.refl _),bj,hW⟩ ?_;rintro _ _ ab ⟨ae,f25,rfl,rfl,aV,aW,aX⟩ bw ⟨aw,aF⟩ bx;have aG:=aF;unfold ND at aG;refine JL.seq (JL.seq ?_);refine JL.region (Ac (v:=iV ab.1) rfl rfl rfl (λρ h=>Yl.move (h _ _ rfl)) ?_);refine Ac (v:=iV p2) rfl rfl rfl (λρ h=>Yl.move (h _ _ rfl)) (Ac (v:=.bool (decide (ab.1<p2))) rfl rfl rfl (λρ h=>Yl.lss (h _ _ rfl) (h _ _ rfl)) ?_);refine JL.done (AU (p:=ab.1<p2) rfl (λaH=>?_) (λaH=>?_))
  .have aY:=aG;rw[d5 aH] at aY;refine JL.skip ?_;refine JL.seq ?_;refine JL.block ?_;refine JL.seq ?_;refine JL.region ?_;refine Ac (v:=iV ab.1) rfl rfl rfl (λρ h=>Yl.move (h _ _ rfl)) ?_;refine Ac (v:=iV ab.1) rfl rfl rfl (λρ h=>Yl.assign (h _ _ rfl)) ?_;refine JL.done ?_;let⟨aq,bz,bA⟩:=bind_some aY;refine Bj (λL s=>∃(al:LH) (f48:Av_),L=[(0,.slice (some ⟨K,0,none⟩) nw Y),(1,iV p1),(2,iV p2),(3,(.func (.func 54) #[.agg #[iV pb,iV pf,wv]] #[])),(8,iV ab.1)]/\s=Ae al H [[(K,.cells f48 89 (0,0))]]/\Le ae al/\Ak al H [[(K,.cells f48 89 (0,0))]]/\WL 89 (rP (rN .u8) (rN .u8)) al K Y nw f48 (aq)) ?_ ?_;rintro _ _ ⟨al,f48,rfl,rfl,bB,bC,bD⟩;refine Bv (JL.region ?_);refine Ac (v:=iV ab.1) rfl rfl rfl (λρ h=>Yl.move (h _ _ rfl)) ?_;let⟨ay,bE,bF⟩:=bind_some bA;refine Ac (v:=iV ay) rfl rfl rfl (λρ h=>BH (h _ _ rfl) (h _ _ rfl) bE) (Ac (v:=iV ay) rfl rfl rfl (λρ h=>Yl.assign (h _ _ rfl)) ?_);refine JL.done ?_;have b8:aw=.more (ay,aq):=(d0 bF).symm;subst aw;refine Ap ?_ (bx _ _ (ay,aq) ⟨al,f48,rfl,rfl,(aV.trans bB),bC,bD⟩ aF);exact⟨rfl,rfl,rfl,rfl,rfl,trivial⟩
   .intro bG;refine JL.block (Ap (L':=[(0,.slice (some ⟨K,0,none⟩) nw Y),(1,iV p1),(2,iV p2),(3,(.func (.func 54) #[.agg #[iV pb,iV pf,wv]] #[])),(8,iV ab.1),(9,iV ab.1)]) ⟨rfl,rfl,rfl,rfl,rfl,rfl,trivial⟩ ?_);refine CG bz (λL s U=>∃(aj:LH) (f58:Av_),L=[(0,.slice (some ⟨K,0,none⟩) nw Y),(1,iV p1),(2,iV p2),(3,(.func (.func 54) #[.agg #[iV pb,iV pf,wv]] #[])),(8,iV ab.1),(9,iV U.1)]/\s=Ae aj H [[(K,.cells f58 89 (0,0))]]/\Le ae aj/\Ak aj H [[(K,.cells f58 89 (0,0))]]/\WL 89 (rP (rN .u8) (rN .u8)) aj K Y nw f58 (U.2)) ⟨ae,f25,rfl,rfl,(Le.refl _),aW,aX⟩ ?_;rintro _ _ U ⟨aj,f58,rfl,rfl,aZ,ar,ac⟩ bH ⟨az,aI⟩ bI;have a2:=aI;unfold LS at a2;refine JL.seq (JL.seq ?_);refine HX 17 [K] ⟨⟨0,_,rfl⟩,trivial⟩ ar mixed rfl (by decide+kernel) λV=>JG.val (v:=iV U.1) 0 rfl V (by decide+kernel) rfl rfl rfl (λρ h s' O=>Yl.move (h _ _ rfl)) (JG.val (v:=iV p1) 1 rfl V (by decide+kernel) rfl rfl rfl (λρ h s' O=>Yl.move (h _ _ rfl)) ?_);refine JG.val (v:=.bool (decide (p1<U.1))) 2 rfl V (by decide+kernel) rfl rfl rfl (λρ h s' O=>Yl.gtr (h _ _ rfl) (h _ _ rfl)) (JG.val (v:=.bool (decide (p1<U.1))) 3 rfl V (by decide+kernel) rfl rfl rfl (λρ h s' O=>Yl.move (h _ _ rfl)) ?_);let⟨am,a3,a4⟩:=bind_some a2;refine PW 0 (tR_ 17 0) (λL s=>∃(an:LH),L=[(0,.slice (some ⟨K,0,none⟩) nw Y),(1,iV p1),(2,iV p2),(3,(.func (.func 54) #[.agg #[iV pb,iV pf,wv]] #[])),(8,iV ab.1),(9,iV U.1),(34,.bool am)]/\s=Ae an H [[(K,.cells f58 89 (0,0))]]/\Le aj an/\Ak an H [[(K,.cells f58 89 (0,0))]]) ?_ ?_;rintro _ _ ⟨an,rfl,rfl,ao,aA⟩;refine AL.fin (by decide+kernel) (CK (t:=am) rfl (λaJ=>?_) (λaJ=>?_));have a5:=a4;rw[d5 aJ] at a5;refine JL.skip ?_;refine JL.seq ?_;refine JL.block ?_;refine UE [15,17] [K] [] mixed rfl ?_;refine JB.val (v:=.slice (some ⟨K,0,none⟩) nw Y) 0 true rfl (by decide+kernel) rfl rfl rfl (λρ h s' O=>Yl.move (h _ _ rfl)) ?_;refine JB.val (v:=iV U.1) 1 true rfl (by decide+kernel) rfl rfl rfl (λρ h s' O=>Yl.move (h _ _ rfl)) ?_;refine JB.val (v:=.slice (some ⟨K,0,none⟩) nw Y) 2 true rfl (by decide+kernel) rfl rfl rfl (λρ h s' O=>Yl.move (h _ _ rfl)) ?_;refine JB.val (v:=iV U.1) 3 true rfl (by decide+kernel) rfl rfl rfl (λρ h s' O=>Yl.move (h _ _ rfl)) ?_;let⟨ag,bJ,bK⟩:=bind_some a5;refine JB.val (v:=iV ag) 4 true rfl (by decide+kernel) rfl rfl rfl (λρ h s' O=>BP (h _ _ rfl) (h _ _ rfl) bJ) ?_;refine JB.val (v:=.slice (some ⟨K,0,none⟩) nw Y) 5 true rfl (by decide+kernel) rfl rfl rfl (λρ h s' O=>Yl.move (h _ _ rfl)) ?_;refine JB.val (v:=iV U.1) 6 true rfl (by decide+kernel) rfl rfl rfl (λρ h s' O=>Yl.move (h _ _ rfl)) ?_;let⟨aK,bL,bM⟩:=bind_some bK;refine JB.val (v:=iV aK) 7 true rfl (by decide+kernel) rfl rfl rfl (λρ h s' O=>BP (h _ _ rfl) (h _ _ rfl) bL) ?_;let⟨Z,a6,bN⟩:=bind_some bM;obtain⟨_,⟨_,_,rfl,rfl,rfl⟩,aL⟩:=WL.at (ac.Ag ao) a6;replace aL:∀(j:Nat) w,[.int .u8 ((Z.1:Nat):Int),.int .u8 ((Z.2:Nat):Int)][j]?=some w->f58[Int.toNat (aK)*2+j]?=some w:=aL;refine JB.val (v:=.pointer (some ⟨K,Int.toNat (aK)*2,none⟩)) 8 true rfl (by decide+kernel) rfl rfl rfl (λρ h s' O=>GA ac.2 a6 Tryz.underlying84 Cq (h _ _ rfl) (h _ _ rfl)) ?_;refine JB.val (v:=.agg #[.int .u8 ((Z.1:Nat):Int),.int .u8 ((Z.2:Nat):Int)]) 9 false rfl (by decide+kernel) rfl rfl rfl (λρ h s' O=>have O:=O rfl;Bm (vs:=[.int .u8 ((Z.1:Nat):Int),.int .u8 ((Z.2:Nat):Int)]) F4 Cq (h _ _ rfl) (λq w ak=>by rw[DK rfl];exact Dc 0 aA rfl (by simp[AW]) O (aL q w ak))) ?_;refine JB.val (v:=.slice (some ⟨K,0,none⟩) nw Y) 10 true rfl (by decide+kernel) rfl rfl rfl (λρ h s' O=>Yl.move (h _ _ rfl)) ?_;refine JB.val (v:=iV U.1) 11 true rfl (by decide+kernel) rfl rfl rfl (λρ h s' O=>Yl.move (h _ _ rfl)) ?_;let⟨aa,aB,bO⟩:=bind_some bN;obtain⟨_,⟨_,_,rfl,rfl,rfl⟩,aM⟩:=WL.at (ac.Ag ao) aB;replace aM:∀(j:Nat) w,[.int .u8 ((aa.1:Nat):Int),.int .u8 ((aa.2:Nat):Int)][j]?=some w->f58[Int.toNat (U.1)*2+j]?=some w:=aM;refine JB.val (v:=.pointer (some ⟨K,Int.toNat (U.1)*2,none⟩)) 12 true rfl (by decide+kernel) rfl rfl rfl (λρ h s' O=>GA ac.2 aB Tryz.underlying84 Cq (h _ _ rfl) (h _ _ rfl)) ?_;refine JB.val (v:=.agg #[.int .u8 ((aa.1:Nat):Int),.int .u8 ((aa.2:Nat):Int)]) 13 false rfl (by decide+kernel) rfl rfl rfl (λρ h s' O=>have O:=O rfl;Bm (vs:=[.int .u8 ((aa.1:Nat):Int),.int .u8 ((aa.2:Nat):Int)]) F4 Cq (h _ _ rfl) (λq w ak=>by rw[DK rfl];exact Dc 0 aA rfl (by simp[AW]) O (aM q w ak))) ?_;refine JB.val (v:=.pointer (some ⟨K,Int.toNat (U.1)*2,none⟩)) 14 true rfl (by decide+kernel) rfl rfl rfl (λρ h s' O=>GA ac.2 aB Tryz.underlying84 Cq (h _ _ rfl) (h _ _ rfl)) ?_;have au:=WL.put (x':=Z) (ws':=[.int .u8 ((Z.1:Nat):Int),.int .u8 ((Z.2:Nat):Int)]) (ac.Ag ao) ac.2 aB ⟨_,_,rfl,rfl,rfl⟩;refine JB.store (v:=.agg #[.int .u8 ((Z.1:Nat):Int),.int .u8 ((Z.2:Nat):Int)]) (off:=Int.toNat (U.1)*2) 15 0 (by decide+kernel) (by decide+kernel) rfl rfl rfl aA rfl rfl Cq (by simp[Value.cells,A3]) rfl trivial au.2 λbP=>?_;let⟨a7,aN,bQ⟩:=bind_some bO;obtain⟨_,⟨_,_,rfl,rfl,rfl⟩,a8⟩:=WL.at au.1 aN;replace a8:∀(j:Nat) w,[.int .u8 ((a7.1:Nat):Int),.int .u8 ((a7.2:Nat):Int)][j]?=some w->(Bf f58 (Int.toNat (U.1)*2) [.int .u8 ((Z.1:Nat):Int),.int .u8 ((Z.2:Nat):Int)])[Int.toNat (ag)*2+j]?=some w:=a8;refine JB.val (v:=.pointer (some ⟨K,Int.toNat (ag)*2,none⟩)) 16 true rfl (by decide+kernel) rfl rfl rfl (λρ h s' O=>GA (au.1).2 aN Tryz.underlying84 Cq (h _ _ rfl) (h _ _ rfl)) ?_;have a9:=WL.put (x':=aa) (ws':=[.int .u8 ((aa.1:Nat):Int),.int .u8 ((aa.2:Nat):Int)]) au.1 (au.1).2 aN ⟨_,_,rfl,rfl,rfl⟩;refine JB.store (v:=.agg #[.int .u8 ((aa.1:Nat):Int),.int .u8 ((aa.2:Nat):Int)]) (off:=Int.toNat (ag)*2) 17 0 (by decide+kernel) (by decide+kernel) rfl rfl rfl bP rfl rfl Cq (by simp[Value.cells,A3]) rfl trivial a9.2 λbR=>?_;refine JB.fin (by decide+kernel) ?_;refine AT (S':=[[(K,.cells (Bf (Bf f58 (Int.toNat (U.1)*2) [.int .u8 ((Z.1:Nat):Int),.int .u8 ((Z.2:Nat):Int)]) (Int.toNat (ag)*2) [.int .u8 ((aa.1:Nat):Int),.int .u8 ((aa.2:Nat):Int)]) 89 (0,0))]]) rfl bR λbS=>?_;refine Bv ?_;refine JL.region ?_;refine Ac (v:=iV U.1) rfl rfl rfl (λρ h=>Yl.move (h _ _ rfl)) ?_;let⟨aC,bT,bU⟩:=bind_some bQ;refine Ac (v:=iV aC) rfl rfl rfl (λρ h=>BP (h _ _ rfl) (h _ _ rfl) bT) ?_;refine Ac (v:=iV aC) rfl rfl rfl (λρ h=>Yl.assign (h _ _ rfl)) ?_;refine JL.done ?_;have b9:az=.more (aC,((U.2.set (Int.toNat U.1) Z).set (Int.toNat ag) aa)):=(d0 bU).symm;subst az;refine Ap ?_ (bI _ _ (aC,((U.2.set (Int.toNat U.1) Z).set (Int.toNat ag) aa)) ⟨an,(Bf (Bf f58 (Int.toNat (U.1)*2) [.int .u8 ((Z.1:Nat):Int),.int .u8 ((Z.2:Nat):Int)]) (Int.toNat (ag)*2) [.int .u8 ((aa.1:Nat):Int),.int .u8 ((aa.2:Nat):Int)]),rfl,rfl,(aZ.trans ao),bS,a9.1⟩ aI);exact⟨rfl,rfl,rfl,rfl,rfl,rfl,trivial⟩;have ba:=a4;rw[d7 (by rw[aJ];exact f8)] at ba;refine JL.exit rfl ?_;have ca:az=.done U.2:=(d0 ba).symm;subst az;have cb:aq=U.2:=(bH _ aI).symm;subst aq;refine Ap ?_ (bG _ _ ⟨an,f58,rfl,rfl,(aZ.trans ao),aA,(ac.Ag ao)⟩);exact⟨rfl,rfl,rfl,rfl,rfl,trivial⟩
    .intro bb;refine O4 (q:=p1<U.1) (i:=21) rfl (λaO=>?_) (λaO=>?_)
     .have be:=a3;rw[d5 aO] at be;refine JG.val (v:=(.func (.func 54) #[.agg #[iV pb,iV pf,wv]] #[])) 4 rfl V (by decide+kernel) rfl rfl rfl (λρ h s' O=>Yl.move (h _ _ rfl)) ?_;refine JG.val (v:=.slice (some ⟨K,0,none⟩) nw Y) 5 rfl V (by decide+kernel) rfl rfl rfl (λρ h s' O=>Yl.move (h _ _ rfl)) ?_;refine JG.val (v:=iV U.1) 6 rfl V (by decide+kernel) rfl rfl rfl (λρ h s' O=>Yl.move (h _ _ rfl)) ?_;obtain⟨ah,bf,bV⟩:=bind_some be;obtain⟨_,⟨_,_,rfl,rfl,rfl⟩,aP⟩:=WL.at ac bf;replace aP:∀(j:Nat) w,[.int .u8 ((ah.1:Nat):Int),.int .u8 ((ah.2:Nat):Int)][j]?=some w->f58[Int.toNat (U.1)*2+j]?=some w:=aP;refine JG.val (v:=.pointer (some ⟨K,Int.toNat (U.1)*2,none⟩)) 7 rfl V (by decide+kernel) rfl rfl rfl (λρ h s' O=>GA (ac).2 bf Tryz.underlying84 Cq (h _ _ rfl) (h _ _ rfl)) ?_;refine JG.val (v:=.agg #[.int .u8 ((ah.1:Nat):Int),.int .u8 ((ah.2:Nat):Int)]) 8 rfl V (by decide+kernel) rfl rfl rfl (λρ h s' O=>Bm (vs:=[.int .u8 ((ah.1:Nat):Int),.int .u8 ((ah.2:Nat):Int)]) F4 Cq (h _ _ rfl) (λq w ak=>by rw[DK rfl];exact Dc 0 ar rfl (by simp[AW]) O (aP q w ak))) ?_;refine JG.val (v:=.slice (some ⟨K,0,none⟩) nw Y) 9 rfl V (by decide+kernel) rfl rfl rfl (λρ h s' O=>Yl.move (h _ _ rfl)) ?_;refine JG.val (v:=iV U.1) 10 rfl V (by decide+kernel) rfl rfl rfl (λρ h s' O=>Yl.move (h _ _ rfl)) ?_;let⟨aQ,bW,bX⟩:=bind_some bV;refine JG.val (v:=iV aQ) 11 rfl V (by decide+kernel) rfl rfl rfl (λρ h s' O=>BP (h _ _ rfl) (h _ _ rfl) bW) ?_;let⟨ai,bg,bY⟩:=bind_some bX;obtain⟨_,⟨_,_,rfl,rfl,rfl⟩,aR⟩:=WL.at ac bg;replace aR:∀(j:Nat) w,[.int .u8 ((ai.1:Nat):Int),.int .u8 ((ai.2:Nat):Int)][j]?=some w->f58[Int.toNat (aQ)*2+j]?=some w:=aR;refine JG.val (v:=.pointer (some ⟨K,Int.toNat (aQ)*2,none⟩)) 12 rfl V (by decide+kernel) rfl rfl rfl (λρ h s' O=>GA (ac).2 bg Tryz.underlying84 Cq (h _ _ rfl) (h _ _ rfl)) ?_;refine JG.val (v:=.agg #[.int .u8 ((ai.1:Nat):Int),.int .u8 ((ai.2:Nat):Int)]) 13 rfl V (by decide+kernel) rfl rfl rfl (λρ h s' O=>Bm (vs:=[.int .u8 ((ai.1:Nat):Int),.int .u8 ((ai.2:Nat):Int)]) F4 Cq (h _ _ rfl) (λq w ak=>by rw[DK rfl];exact Dc 0 ar rfl (by simp[AW]) O (aR q w ak))) ?_;let⟨aS,bZ,b2⟩:=bind_some bY;refine SK (i:=14) (first:=[.agg #[iV pb,iV pf,wv]]) ⟨⟨0,_,rfl⟩,trivial⟩ (vs:=[.agg #[.int .u8 ((ah.1:Nat):Int),.int .u8 ((ah.2:Nat):Int)],.agg #[.int .u8 ((ai.1:Nat):Int),.int .u8 ((ai.2:Nat):Int)]]) (TL bZ) (by decide+kernel) rfl rfl rfl rfl (A4 Tryz.func54 rfl) rfl ar ?_
      rintro _ b3 _ b4 ⟨rfl,rfl⟩ b5;refine JG.val (v:=.bool (decide (aS<0))) 15 rfl V (by decide+kernel) rfl rfl rfl (λρ h s' O=>Yl.lss (h _ _ rfl) (h _ _ rfl)) (JG.val (v:=.bool (decide (aS<0))) 16 rfl V (by decide+kernel) rfl rfl rfl (λρ h s' O=>Ci (h _ _ rfl) (h _ _ rfl)) ?_);have cc:am=(decide (aS<0)):=(d0 b2).symm;subst am;refine LR ?_ (bb _ _ ⟨b3,rfl,rfl,b4,b5⟩);exact⟨rfl,rfl,rfl,rfl,rfl,rfl,rfl,trivial⟩
     .have bh:=a3;rw[d7 aO] at bh;refine DN 4 rfl V (by decide+kernel) rfl rfl rfl ?_;refine DN 5 rfl V (by decide+kernel) rfl rfl rfl ?_;refine DN 6 rfl V (by decide+kernel) rfl rfl rfl ?_;refine DN 7 rfl V (by decide+kernel) rfl rfl rfl ?_;refine DN 8 rfl V (by decide+kernel) rfl rfl rfl ?_;refine DN 9 rfl V (by decide+kernel) rfl rfl rfl ?_;refine DN 10 rfl V (by decide+kernel) rfl rfl rfl ?_;refine DN 11 rfl V (by decide+kernel) rfl rfl rfl ?_;refine DN 12 rfl V (by decide+kernel) rfl rfl rfl ?_;refine DN 13 rfl V (by decide+kernel) rfl rfl rfl ?_;refine DN 14 rfl V (by decide+kernel) rfl rfl rfl ?_;refine DN 15 rfl V (by decide+kernel) rfl rfl rfl ?_;refine JG.val (v:=.bool false) 16 rfl V (by decide+kernel) rfl rfl rfl (λρ h s' O=>CF (h _ _ rfl) (h _ _ rfl)) ?_;have cd:am=false:=(d0 bh).symm;subst am;refine LR ?_ (bb _ _ ⟨aj,rfl,rfl,(Le.refl _),ar⟩);exact⟨rfl,rfl,rfl,rfl,rfl,rfl,rfl,trivial⟩
  .have bi:=aG;rw[d7 aH] at bi;refine JL.exit rfl ?_;have ce:aw=.done ab.2:=(d0 bi).symm;subst aw;have cg:av=ab.2:=(bw _ aF).symm;subst av;refine Ap ?_ (bv _ _ ⟨ae,f25,rfl,rfl,aV,aW,aX⟩);exact trivial
def LK(fuel:Nat)(p0:List (Nat×Nat))(p1:Int)(p2:Int)(p3:Int)(pb:Int)(U:Unit):Option (BX (Unit) (((List (Nat×Nat)))⊕(Unit))):=
 (AR (p2 - p1)).bind λK=>
 if K<=12 then(
  (KO fuel p0 p1 p2 pb).bind λO=>
  some (.done (Sum.inl O))
 ) else(
  if p3=0 then(
   none
  ) else(
   none
  )
 )
def MF(fuel:Nat)(p0:List (Nat×Nat))(p1:Int)(p2:Int)(p3:Int)(pb:Int):Option ((List (Nat×Nat))):=
 Option.bind (iter (LK fuel p0 p1 p2 p3 pb) fuel ()) λK=>
 Sum.elim (λr=>some r) (λO=>
 none
 ) K
variable{O:Nat}
theorem Vz{J:Judge Tryz.prog}{E:LH}{V:Av_}{p3:Int}(hW:WL 89 (rP (rN .u8) (rN .u8)) E K O nw V p0){fuel:Nat}(ae:MF fuel p0 p1 p2 p3 pb=some r):Ax J 81 [.slice (some ⟨K,0,none⟩) nw O,iV p1,iV p2,iV p3,(.func (.func 54) #[.agg #[iV pb,iV pf,wv]] #[])] E [(K,.cells V 89 (0,0))] (λw E' B'=>∃(ag:Av_),w=.tuple #[]/\B'=[(K,.cells ag 89 (0,0))]/\WL 89 (rP (rN .u8) (rN .u8)) E' K O nw ag (r)):=by
 refine Ax.enter Tryz.func81 rfl (d4 rfl) λQ aJ cs H aq ar=>?_;unfold MF at ae;refine JL.seq (JL.region ?_);refine Ac (v:=.bool true) rfl rfl rfl (λρ h=>Yl.assign (h _ _ rfl)) (JL.done ?_);refine JL.seq (JL.region ?_);refine Ac (v:=.bool true) rfl rfl rfl (λρ h=>Yl.assign (h _ _ rfl)) (JL.done ?_);let⟨ah,au,av⟩:=bind_some ae;refine Bj (λL s=>False) ?_ ?_;intro _ _ aw;exact aw.elim;intro aK;refine JL.block (Ap (L':=[(0,.slice (some ⟨K,0,none⟩) nw O),(1,iV p1),(2,iV p2),(3,iV p3),(4,(.func (.func 54) #[.agg #[iV pb,iV pf,wv]] #[])),(10,.bool true),(11,.bool true)]) ⟨rfl,rfl,rfl,rfl,rfl,rfl,rfl,trivial⟩ ?_);refine CG au (λL s ay=>∃(Y:LH),L=[(0,.slice (some ⟨K,0,none⟩) nw O),(1,iV p1),(2,iV p2),(3,iV p3),(4,(.func (.func 54) #[.agg #[iV pb,iV pf,wv]] #[])),(10,.bool true),(11,.bool true)]/\s=Ae Y H [[(K,.cells V 89 (0,0))]]/\Le E Y/\Ak Y H [[(K,.cells V 89 (0,0))]]) ⟨E,rfl,rfl,(Le.refl _),aq⟩ ?_;rintro _ _ ay ⟨Y,rfl,rfl,ai,az⟩ aA ⟨aj,ak⟩ aL;have al:=ak;unfold LK at al;refine JL.block (JL.seq ?_);refine JL.region (Ac (v:=iV p2) rfl rfl rfl (λρ h=>Yl.move (h _ _ rfl)) ?_);refine Ac (v:=iV p1) rfl rfl rfl (λρ h=>Yl.move (h _ _ rfl)) ?_;let⟨U,aB,am⟩:=bind_some al;refine Ac (v:=iV U) rfl rfl rfl (λρ h=>BP (h _ _ rfl) (h _ _ rfl) aB) (Ac (v:=iV U) rfl rfl rfl (λρ h=>Yl.assign (h _ _ rfl)) ?_);refine JL.done (JL.seq ?_);refine JL.seq (JL.region ?_);refine Ac (v:=iV U) rfl rfl rfl (λρ h=>Yl.move (h _ _ rfl)) (Ac (v:=.bool (decide (U<=12))) rfl rfl rfl (λρ h=>Yl.leq (h _ _ rfl) (h _ _ rfl)) ?_);refine JL.done (AU (p:=U<=12) rfl (λZ=>?_) (λZ=>?_));have an:=am;rw[d5 Z] at an;refine JL.seq ?_;refine JL.region ?_;refine Ac (v:=.slice (some ⟨K,0,none⟩) nw O) rfl rfl rfl (λρ h=>Yl.move (h _ _ rfl)) ?_;refine Ac (v:=iV p1) rfl rfl rfl (λρ h=>Yl.move (h _ _ rfl)) ?_;refine Ac (v:=iV p2) rfl rfl rfl (λρ h=>Yl.move (h _ _ rfl)) ?_;refine Ac (v:=(.func (.func 54) #[.agg #[iV pb,iV pf,wv]] #[])) rfl rfl rfl (λρ h=>Yl.move (h _ _ rfl)) ?_;let⟨aa,aC,aD⟩:=bind_some an;refine DI (vs:=[.slice (some ⟨K,0,none⟩) nw O,iV p1,iV p2,(.func (.func 54) #[.agg #[iV pb,iV pf,wv]] #[])]) 0 (Va (hW.Ag ai) aC) rfl rfl rfl (A4 Tryz.func94 rfl) rfl az rfl ?_;rintro _ aM _ aE ⟨f32,rfl,rfl,aF⟩ aG;refine AT (S':=[[(K,.cells f32 89 (0,0))]]) rfl aG λaH=>?_;refine JL.done ?_;have aN:aj=.done (Sum.inl aa):=(d0 aD).symm;subst aj;have aO:ah=Sum.inl aa:=(aA _ ak).symm;subst ah;have aI:=elim_inl av;have aP:r=aa:=(d0 aI).symm;subst r;refine JL.ret (v:=.tuple #[]) rfl rfl (Ay.list Tryz.func81 rfl (vs:=[]) trivial) ?_;exact ar _ _ _ _ (ai.trans aE) rfl ⟨f32,rfl,(by first | rfl | simp | (simp[Value.cells])),aF⟩ aH;have ab:=am;rw[d7 Z] at ab;refine JL.skip ?_;refine JL.seq ?_;refine JL.seq ?_;refine JL.region ?_;refine Ac (v:=iV p3) rfl rfl rfl (λρ h=>Yl.move (h _ _ rfl)) ?_;refine Ac (v:=.bool (decide (p3=0))) rfl rfl rfl (λρ h=>Yl.eql (h _ _ rfl) (h _ _ rfl)) ?_;refine JL.done ?_;refine AU (p:=p3=0) rfl (λac=>?_) (λac=>?_);have ao:=ab;rw[d5 ac] at ao;refine JL.seq ?_;refine JL.region ?_;refine Ac (v:=.slice (some ⟨K,0,none⟩) nw O) rfl rfl rfl (λρ h=>Yl.move (h _ _ rfl)) ?_;refine Ac (v:=iV p1) rfl rfl rfl (λρ h=>Yl.move (h _ _ rfl)) ?_;refine Ac (v:=iV p2) rfl rfl rfl (λρ h=>Yl.move (h _ _ rfl)) ?_;refine Ac (v:=(.func (.func 54) #[.agg #[iV pb,iV pf,wv]] #[])) rfl rfl rfl (λρ h=>Yl.move (h _ _ rfl)) ?_;cases ao;have ap:=ab;rw[d7 ac] at ap;refine JL.skip ?_;refine JL.seq ?_;refine JL.seq ?_;refine JL.region ?_;refine Ac (v:=.bool true) rfl rfl rfl (λρ h=>Yl.move (h _ _ rfl)) ?_;refine Ac (v:=.bool false) rfl rfl rfl (λρ h=>Yl.not (c:=true) (h _ _ rfl)) ?_;refine JL.done ?_;refine I4 rfl ?_;refine JL.skip ?_;refine JL.seq ?_;refine JL.region ?_;refine Ac (v:=.slice (some ⟨K,0,none⟩) nw O) rfl rfl rfl (λρ h=>Yl.move (h _ _ rfl)) ?_;refine Ac (v:=iV p1) rfl rfl rfl (λρ h=>Yl.move (h _ _ rfl)) ?_;refine Ac (v:=iV p2) rfl rfl rfl (λρ h=>Yl.move (h _ _ rfl)) ?_;refine Ac (v:=(.func (.func 54) #[.agg #[iV pb,iV pf,wv]] #[])) rfl rfl rfl (λρ h=>Yl.move (h _ _ rfl)) ?_;cases ap
def Hy(fuel:Nat)(p0:List (Nat×Nat))(pb:Int):Option ((List (Nat×Nat))):=
 (f115 fuel (Cd ((p0).length:Int))).bind λK=>
 (MF fuel p0 0 ((p0).length:Int) K pb).bind λO=>
 some O
theorem Ug{J:Judge Tryz.prog}{E:LH}{U:Av_}(hW:WL 89 (rP (rN .u8) (rN .u8)) E K O nw U p0){fuel:Nat}(V:Hy fuel p0 pb=some r):Ax J 53 [.slice (some ⟨K,0,none⟩) nw O,(.func (.func 54) #[.agg #[iV pb,iV pf,wv]] #[])] E [(K,.cells U 89 (0,0))] (λw E' B'=>∃(Y:Av_),w=.tuple #[]/\B'=[(K,.cells Y 89 (0,0))]/\WL 89 (rP (rN .u8) (rN .u8)) E' K O nw Y (r)):=by
 refine Ax.enter Tryz.func53 rfl (d4 rfl) λQ ap cs H aa ab=>?_;unfold Hy at V;refine JL.seq (JL.region ?_);refine Ac (v:=.slice (some ⟨K,0,none⟩) nw O) rfl rfl rfl (λρ h=>Yl.move (h _ _ rfl)) (Ac (v:=iV ((p0).length:Int)) rfl rfl rfl (λρ h=>Ut (hW).2 rfl Tryz.underlying84 (h _ _ rfl)) ?_);refine Ac (v:=iV ((p0).length:Int)) rfl rfl rfl (λρ h=>Yl.assign (h _ _ rfl)) (JL.done ?_);refine JL.region (Ac (v:=.slice (some ⟨K,0,none⟩) nw O) rfl rfl rfl (λρ h=>Yl.move (h _ _ rfl)) ?_);refine Ac (v:=iV ((p0).length:Int)) rfl rfl rfl (λρ h=>Yl.move (h _ _ rfl)) (Ac (v:=iV ((p0).length:Int)) rfl rfl rfl (λρ h=>Yl.move (h _ _ rfl)) ?_);refine Ac (v:=.int .u64 ((Cd ((p0).length:Int):Nat):Int)) rfl rfl rfl (λρ h=>Yl.Cd Tryz.underlying3 Tryz.underlying111 (h _ _ rfl)) ?_;let⟨ac,ae,ag⟩:=bind_some V;refine JS.call (vs:=[.int .u64 ((Cd ((p0).length:Int):Nat):Int)]) (Wq ae) rfl rfl rfl (A4 Tryz.func82 rfl) rfl aa ?_;rintro _ aq _ Z ⟨rfl,rfl⟩ ah;refine Ac (v:=(.func (.func 54) #[.agg #[iV pb,iV pf,wv]] #[])) rfl rfl rfl (λρ h=>Yl.move (h _ _ rfl)) ?_;let⟨ai,aj,ak⟩:=bind_some ag;refine DI (vs:=[.slice (some ⟨K,0,none⟩) nw O,iV 0,iV ((p0).length:Int),iV ac,(.func (.func 54) #[.agg #[iV pb,iV pf,wv]] #[])]) 0 (Vz (hW.Ag Z) aj) rfl rfl rfl (A4 Tryz.func81 rfl) rfl ah rfl ?_;rintro _ ar _ al ⟨f12,rfl,rfl,am⟩ an;refine AT (S':=[[(K,.cells f12 89 (0,0))],[]]) rfl an λao=>JL.done ?_;have au:r=ai:=(d0 ak).symm;subst r;exact JL.fin (v:=.tuple #[]) rfl rfl (Ay.list Tryz.func53 rfl (vs:=[]) trivial) (ab _ _ _ _ (Z.trans al) rfl ⟨f12,rfl,(by first | rfl | simp | (simp[Value.cells])),am⟩ ao)
def LX(cf:(Nat×Nat)->Option Bool)(fuel:Nat)(p0:List (Nat×Nat))(K:Int):Option (BX (Int) ((Int)⊕(Unit))):=
 if K<((p0).length:Int) then(
  (ix p0 (K)).bind λO=>
  (cf O).bind λU=>
  if U=true then(
   some (.done (Sum.inl K))
  ) else(
   (AR (K+1)).bind λV=>
   some (.more V)
  )
 ) else(
  some (.done (Sum.inr ()))
 )
def MG(cf:(Nat×Nat)->Option Bool)(fuel:Nat)(p0:List (Nat×Nat)):Option (Int):=
 Option.bind (iter (LX cf fuel p0) fuel 0) λK=>
 Sum.elim (λr=>some r) (λO=>
 some (-1)
 ) K
variable{a1:Option Addr}{c2:Nat}
theorem UR{J:Judge Tryz.prog}{E:LH}{cf:(Nat×Nat)->Option Bool}{cv:Value}(az:AK (rP (rN .u8) (rN .u8)) E a1 c2 (p0))(aA:∀{E':LH}{x:Nat×Nat}{r:Bool},Le E E'->cf x=some r->He J cv [.agg #[.int .u8 ((x.1:Nat):Int),.int .u8 ((x.2:Nat):Int)]] E' [] (λw _ B'=>w=.bool r/\B'=[])){fuel:Nat}{r:Int}(aj:MG cf fuel p0=some r):Ax J 27 [.slice a1 (p0).length c2,cv] E [] (λw E' B'=>w=iV r/\B'=[]):=by
 refine Ax.enter Tryz.func27 rfl (d4 rfl) λQ aV cs H aB ak=>?_;unfold MG at aj;refine JL.seq (JL.region ?_);refine Ac (v:=iV 0) rfl rfl rfl (λρ h=>Yl.assign (h _ _ rfl)) (JL.done ?_);refine JL.seq (JL.seq ?_);refine JL.region (Ac (v:=.slice a1 (p0).length c2) rfl rfl rfl (λρ h=>Yl.move (h _ _ rfl)) ?_);refine Ac (v:=iV ((p0).length:Int)) rfl rfl rfl (λρ h=>Yl.len rfl Tryz.underlying84 (h _ _ rfl)) (Ac (v:=iV 0) rfl rfl rfl (λρ h=>Yl.move (h _ _ rfl)) ?_);refine JL.done ?_;let⟨Z,aC,al⟩:=bind_some aj;refine Bj (λL s=>∃(am:Unit) (aa:LH),Z=Sum.inr am/\L=[]/\s=Ae aa H []/\Le E aa/\Ak aa H []) ?_ ?_;rintro _ _ ⟨am,aa,rfl,rfl,rfl,aD,aE⟩;have aF:=elim_inr al;refine JL.seq (JL.region ?_);refine Ac (v:=iV (-1)) rfl rfl rfl (λρ h=>Yl.assign (h _ _ rfl)) (JL.done ?_);have aW:r=(-1):=(d0 aF).symm;subst r;exact JL.ret (v:=iV (-1)) rfl rfl (Ay.list Tryz.func27 rfl (vs:=[iV (-1)]) ⟨rfl,trivial⟩) (ak _ _ _ _ aD rfl ⟨rfl,rfl⟩ aE);intro aG;refine JL.block (Ap (L':=[(0,.slice a1 (p0).length c2),(1,cv),(7,iV ((p0).length:Int)),(8,iV 0)]) ⟨rfl,rfl,rfl,rfl,trivial⟩ ?_);refine CG aC (λL s K=>∃(U:LH),L=[(0,.slice a1 (p0).length c2),(1,cv),(7,iV ((p0).length:Int)),(8,iV K)]/\s=Ae U H []/\Le E U/\Ak U H []) ⟨E,rfl,rfl,(Le.refl _),aB⟩ ?_;rintro _ _ K ⟨U,rfl,rfl,Y,an⟩ ao ⟨V,ab⟩ aH;have ae:=ab;unfold LX at ae;refine JL.seq (JL.region ?_);refine Ac (v:=.bool (decide (K<((p0).length:Int)))) rfl rfl rfl (λρ h=>Yl.lss (h _ _ rfl) (h _ _ rfl)) (JL.done ?_);refine JL.seq (AU (p:=K<((p0).length:Int)) rfl (λag=>?_) (λag=>?_));have ap:=ae;rw[d5 ag] at ap;refine JL.skip ?_;refine JL.seq ?_;refine JL.block ?_;refine JL.seq ?_;refine JL.region ?_;refine Ac (v:=iV K) rfl rfl rfl (λρ h=>Yl.move (h _ _ rfl)) ?_;refine Ac (v:=iV K) rfl rfl rfl (λρ h=>Yl.assign (h _ _ rfl)) ?_;refine JL.done ?_;refine JL.seq ?_;refine JL.region ?_;refine Ac (v:=cv) rfl rfl rfl (λρ h=>Yl.move (h _ _ rfl)) ?_;refine Ac (v:=.slice a1 (p0).length c2) rfl rfl rfl (λρ h=>Yl.move (h _ _ rfl)) ?_;refine Ac (v:=iV K) rfl rfl rfl (λρ h=>Yl.move (h _ _ rfl)) ?_;let⟨O,aI,aJ⟩:=bind_some ap;refine DL (az.Ag Y) aI rfl rfl rfl rfl rfl Tryz.underlying84 Cq ?_;rintro aK aL _ ⟨_,_,rfl,rfl,rfl⟩ ah;replace ah:At U aK aL [.int .u8 ((O.1:Nat):Int),.int .u8 ((O.2:Nat):Int)]:=ah;refine Ac (v:=.agg #[.int .u8 ((O.1:Nat):Int),.int .u8 ((O.2:Nat):Int)]) rfl rfl rfl (λρ h=>Bm (vs:=[.int .u8 ((O.1:Nat):Int),.int .u8 ((O.2:Nat):Int)]) F4 Cq (h _ _ rfl) (At.Cl ah)) ?_;let⟨aM,aN,aq⟩:=bind_some aJ;refine Pk an λaO=>?_;refine PL (vs:=[.agg #[.int .u8 ((O.1:Nat):Int),.int .u8 ((O.2:Nat):Int)]]) 0 (aA Y aN) rfl rfl rfl rfl rfl aO rfl ?_;rintro _ aP _ ar ⟨rfl,rfl⟩ aQ;refine AT (S':=[[]]) rfl aQ λau=>?_;refine JL.done ?_;refine CK (t:=aM) rfl (λai=>?_) (λai=>?_);have av:=aq;rw[d5 ai] at av;refine JL.seq ?_;refine JL.region ?_;refine Ac (v:=iV K) rfl rfl rfl (λρ h=>Yl.move (h _ _ rfl)) ?_;refine Ac (v:=iV K) rfl rfl rfl (λρ h=>Yl.assign (h _ _ rfl)) ?_;refine JL.done ?_;have aX:V=.done (Sum.inl K):=(d0 av).symm;subst V;have aY:Z=Sum.inl K:=(ao _ ab).symm;subst Z;have aR:=elim_inl al;have aZ:r=K:=(d0 aR).symm;subst r;refine JL.ret (v:=iV K) rfl rfl (Ay.list Tryz.func27 rfl (vs:=[iV K]) ⟨rfl,trivial⟩) ?_;exact ak _ _ _ _ (Y.trans ar) rfl ⟨rfl,rfl⟩ au;have aw:=aq;rw[d7 (by rw[ai];exact f8)] at aw;refine JL.skip ?_;refine Bv ?_;refine JL.region ?_;let⟨ac,aS,aT⟩:=bind_some aw;refine Ac (v:=iV ac) rfl rfl rfl (λρ h=>BH (h _ _ rfl) (h _ _ rfl) aS) ?_;refine Ac (v:=iV ac) rfl rfl rfl (λρ h=>Yl.move (h _ _ rfl)) ?_;refine JL.done ?_;have a2:V=.more ac:=(d0 aT).symm;subst V;refine Ap ?_ (aH _ _ ac ⟨aP,rfl,rfl,(Y.trans ar),au⟩ ab);exact⟨rfl,rfl,rfl,rfl,trivial⟩;have ay:=ae;rw[d7 ag] at ay;refine JL.exit rfl ?_;have a3:V=.done (Sum.inr ()):=(d0 ay).symm;subst V;have aU:Z=(Sum.inr ()):=(ao _ ab).symm;refine Ap ?_ (aG _ _ ⟨(),U,aU,rfl,rfl,Y,an⟩);exact trivial
def Hx(fuel:Nat)(p0:Nat×Nat)(K:Int):Option (Bool):=
 (Fc fuel p0.1 K).bind λO=>
 some O
variable{V:Nat}
theorem T8{J:Judge Tryz.prog}{E:LH}{p0:Nat×Nat}{K:Int}(ab:At E V Y [iV K]){fuel:Nat}{r:Bool}(Z:Hx fuel p0 K=some r):Ax J 28 [.agg #[.int .u8 ((p0.1:Nat):Int),.int .u8 ((p0.2:Nat):Int)],.pointer (some ⟨V,Y,none⟩)] E [] (λw E' B'=>w=.bool r/\B'=[]):=by
 refine Ax.enter Tryz.func28 rfl (d4 rfl) λQ an cs H ac ae=>?_;unfold Hx at Z;refine JL.seq (JL.region ?_);refine JS.box (v:=.agg #[.int .u8 ((p0.1:Nat):Int),.int .u8 ((p0.2:Nat):Int)]) rfl rfl rfl ac rfl λr2 ag=>A8 1 ag rfl λah aa U ai=>?_;replace U:At ah r2 0 [.int .u8 ((p0.1:Nat):Int),.int .u8 ((p0.2:Nat):Int)]:=U;refine Ac (v:=.bool false) rfl rfl rfl (λρ h=>Yl.assign (h _ _ rfl)) (JL.done ?_);refine JL.seq (JL.region ?_);refine Ac (v:=.pointer (some ⟨r2,0,none⟩)) rfl rfl rfl (λρ h=>Aq (a:=⟨r2,0,none⟩) 0 0 Tryz.underlying89 DU rfl rfl rfl (h _ _ rfl)) (Ac (v:=.int .u8 ((p0.1:Nat):Int)) rfl rfl rfl (λρ h=>Yl.load Eu (h _ _ rfl) (At.AN (j:=0) U rfl)) ?_);refine Ac (v:=iV K) rfl rfl rfl (λρ h=>Yl.load AD (h _ _ rfl) (At.AN (j:=0) (ab.Ag aa) rfl)) ?_;let⟨O,aj,ak⟩:=bind_some Z;refine JS.call (vs:=[.int .u8 ((p0.1:Nat):Int),iV K]) (G0 aj) rfl rfl rfl GV rfl ai ?_;rintro _ ao _ al ⟨rfl,rfl⟩ am;refine Ac (v:=.bool O) rfl rfl rfl (λρ h=>Yl.assign (h _ _ rfl)) (JL.done ?_);have ap:r=O:=(d0 ak).symm;subst r;exact JL.ret (v:=.bool O) rfl rfl (Ay.list Tryz.func28 rfl (vs:=[.bool O]) ⟨rfl,trivial⟩) (ae _ _ _ _ (aa.trans al) rfl ⟨rfl,(by first | rfl | simp)⟩ am)
def PG(fuel:Nat)(O:(List (Nat×Nat))×Nat)(U:Nat)(K:(List (Nat×Nat))×Nat):Option (BX ((List (Nat×Nat))×Nat) ((List (Nat×Nat))⊕((List (Nat×Nat))))):=
 if(((K.2):Nat):Int)<(((U):Nat):Int) then(
  (room K.1 (O.2,K.2)).bind λV=>
  some (.more (V,(K.2+1)%256))
 ) else(
  some (.done (Sum.inr K.1))
 )
def L1(fuel:Nat)(O:Int×Int×(List (Int×Int×Int×Int)))(U:Nat)(K:(List (Nat×Nat))×Nat):Option (BX ((List (Nat×Nat))×Nat) ((List (Nat×Nat))⊕((List (Nat×Nat))))):=
 if(((K.2):Nat):Int)<(((U):Nat):Int) then(
  (FX O.2.1).bind λV=>
  Option.bind (iter (PG fuel K V) fuel (K.1,0)) λY=>
  Sum.elim (λr=>some (.done (Sum.inl r))) (λZ=>
  some (.more (Z,(K.2+1)%256))
  ) Y
 ) else(
  some (.done (Sum.inr K.1))
 )
def HC(fuel:Nat)(K:Int×Int×(List (Int×Int×Int×Int)))(b1:List (Nat×Nat)):Option (List (Nat×Nat)):=
 (FX K.1).bind λO=>
 Option.bind (iter (L1 fuel K O) fuel (b1,0)) λU=>
 Sum.elim (λr=>some r) (λV=>
 some V
 ) U
theorem Vv{J:Judge Tryz.prog}{I:List (Nat×Nat)->LH->Seg->Prop}{ly:Nat}(bz:∀x E E' X,Le E E'->I x E X->I x E' X)(aQ:∀{E:LH}{X:Seg}{p:(Nat×Nat)}{ac aA:List (Nat×Nat)},room ac p=some aA->I ac E X->He J (.func (.yield ly) #[] #[]) [.agg #[.int .u8 ((p.1:Nat):Int),.int .u8 ((p.2:Nat):Int)]] E X (λw E' aR=>w=.bool true/\I aA E' aR)){E:LH}{kc:Nat}{X1:Seg}{aa:Int×Int×(List (Int×Int×Int×Int))}{b1:List (Nat×Nat)}(aB:At E kc V [iV aa.1,iV aa.2.1,.slice a1 (aa.2.2).length c2])(bA:AK (rP rI (rP rI (rP rI rI))) E a1 c2 (aa.2.2))(aS:I b1 E X1){fuel:Nat}{r:List (Nat×Nat)}(aC:HC fuel aa b1=some r):Ax J 57 [.func (.yield ly) #[] #[],.pointer (some ⟨kc,V,none⟩)] E X1 (λw E' B'=>∃(aD:Seg),w=.tuple #[]/\B'=aD/\I r E' aD):=by
 refine Ax.enter Tryz.func57 rfl (d4 rfl) λQ bB cs H aT aU=>?_;unfold HC at aC;refine JL.seq (JL.region ?_);refine Ac (v:=.pointer (some ⟨kc,V,none⟩)) rfl rfl rfl (λρ h=>Aq (a:=⟨kc,V,none⟩) 2 0 Tryz.underlying81 FF rfl rfl rfl (h _ _ rfl)) (Ac (v:=.pointer (some ⟨kc,V,none⟩)) rfl rfl rfl (λρ h=>Aq (a:=⟨kc,V,none⟩) 0 0 Tryz.underlying40 Aw rfl rfl rfl (h _ _ rfl)) ?_);refine Ac (v:=iV aa.1) rfl rfl rfl (λρ h=>Yl.load AD (h _ _ rfl) (At.AN (j:=0) aB rfl)) ?_;obtain⟨Z,aV,aW⟩:=bind_some aC;refine Ac (v:=.int .u8 ((Z:Nat):Int)) rfl rfl rfl (λρ h=>Ko (h _ _ rfl) (h _ _ rfl) aV) (Ac (v:=.int .u8 ((0:Nat):Int)) rfl rfl rfl (λρ h=>Yl.move (h _ _ rfl)) ?_);refine JL.done ?_;let⟨aE,aX,aY⟩:=bind_some aW;refine Bj (λL s=>∃(an:(List (Nat×Nat))) (ai:LH) (ab:Seg),aE=Sum.inr an/\L=[]/\s=Ae ai H [ab]/\Le E ai/\Ak ai H [ab]/\I an ai ab) ?_ ?_;rintro _ _ ⟨an,ai,ab,rfl,rfl,rfl,aZ,a2,a3⟩;have a4:=elim_inr aY;refine AT (S':=[ab]) rfl a2 λa5=>?_;have bC:r=an:=(d0 a4).symm;subst r;exact JL.fin (v:=.tuple #[]) rfl rfl (Ay.list Tryz.func57 rfl (vs:=[]) trivial) (aU _ _ _ _ aZ rfl ⟨ab,rfl,(by first | rfl | simp),a3⟩ a5);intro a6;refine JL.block (Ap (L':=[(0,.func (.yield ly) #[] #[]),(1,.pointer (some ⟨kc,V,none⟩)),(8,.int .u8 ((Z:Nat):Int)),(9,.int .u8 ((0:Nat):Int))]) ⟨rfl,rfl,rfl,rfl,trivial⟩ ?_);refine CG aX (λL s K=>∃(Y:LH) (ae:Seg),L=[(0,.func (.yield ly) #[] #[]),(1,.pointer (some ⟨kc,V,none⟩)),(8,.int .u8 ((Z:Nat):Int)),(9,.int .u8 ((K.2:Nat):Int))]/\s=Ae Y H [ae]/\Le E Y/\Ak Y H [ae]/\I K.1 Y ae) ⟨E,X1,rfl,rfl,(Le.refl _),aT,aS⟩ ?_;rintro _ _ K ⟨Y,ae,rfl,rfl,aq,aF,aG⟩ a7 ⟨ao,ar⟩ a8;have au:=ar;unfold L1 at au;refine JL.seq (JL.region ?_);refine Ac (v:=.bool (decide ((((K.2):Nat):Int)<(((Z):Nat):Int)))) rfl rfl rfl (λρ h=>Yl.lss (h _ _ rfl) (h _ _ rfl)) (JL.done ?_);refine JL.seq (AU (p:=(((K.2):Nat):Int)<(((Z):Nat):Int)) rfl (λav=>?_) (λav=>?_));have aH:=au;rw[d5 av] at aH;refine JL.skip ?_;refine JL.seq ?_;refine JL.block ?_;refine JL.seq ?_;refine JL.region ?_;refine Ac (v:=.int .u8 ((K.2:Nat):Int)) rfl rfl rfl (λρ h=>Yl.move (h _ _ rfl)) ?_;refine Ac (v:=.int .u8 ((K.2:Nat):Int)) rfl rfl rfl (λρ h=>Yl.assign (h _ _ rfl)) ?_;refine JL.done ?_;refine JL.seq ?_;refine JL.region ?_;refine Ac (v:=.pointer (some ⟨kc,V,none⟩)) rfl rfl rfl (λρ h=>Aq (a:=⟨kc,V,none⟩) 2 0 Tryz.underlying81 FF rfl rfl rfl (h _ _ rfl)) ?_;refine Ac (v:=.pointer (some ⟨kc,V+1,none⟩)) rfl rfl rfl (λρ h=>Aq (a:=⟨kc,V,none⟩) 0 1 Tryz.underlying40 Aw rfl rfl rfl (h _ _ rfl)) ?_;refine Ac (v:=iV aa.2.1) rfl rfl rfl (λρ h=>Yl.load AD (h _ _ rfl) (At.AN (j:=1) (aB.Ag aq) rfl)) ?_;let⟨aj,a9,ba⟩:=bind_some aH;refine Ac (v:=.int .u8 ((aj:Nat):Int)) rfl rfl rfl (λρ h=>Ko (h _ _ rfl) (h _ _ rfl) a9) ?_;refine Ac (v:=.int .u8 ((0:Nat):Int)) rfl rfl rfl (λρ h=>Yl.move (h _ _ rfl)) ?_;refine JL.done ?_;let⟨aI,bb,be⟩:=bind_some ba;refine Bj (λL s=>∃(ak:(List (Nat×Nat))) (ag:LH) (al:Seg),aI=Sum.inr ak/\L=[(0,.func (.yield ly) #[] #[]),(1,.pointer (some ⟨kc,V,none⟩)),(8,.int .u8 ((Z:Nat):Int)),(9,.int .u8 ((K.2:Nat):Int))]/\s=Ae ag H [al]/\Le Y ag/\Ak ag H [al]/\I ak ag al) ?_ ?_;rintro _ _ ⟨ak,ag,al,rfl,rfl,rfl,bf,bg,bh⟩;have bi:=elim_inr be;refine Bv (JL.region ?_);refine Ac (v:=.int .u8 (((K.2+1)%256:Nat):Int)) rfl rfl rfl (λρ h=>PO (h _ _ rfl) (h _ _ rfl)) (Ac (v:=.int .u8 (((K.2+1)%256:Nat):Int)) rfl rfl rfl (λρ h=>Yl.move (h _ _ rfl)) ?_);refine JL.done ?_;have bD:ao=.more (ak,(K.2+1)%256):=(d0 bi).symm;subst ao;refine Ap ?_ (a8 _ _ (ak,(K.2+1)%256) ⟨ag,al,rfl,rfl,(aq.trans bf),bg,bh⟩ ar);exact⟨rfl,rfl,rfl,rfl,trivial⟩;intro bj;refine JL.block (Ap (L':=[(0,.func (.yield ly) #[] #[]),(1,.pointer (some ⟨kc,V,none⟩)),(3,.int .u8 ((K.2:Nat):Int)),(8,.int .u8 ((Z:Nat):Int)),(9,.int .u8 ((K.2:Nat):Int)),(15,.int .u8 ((aj:Nat):Int)),(16,.int .u8 ((0:Nat):Int))]) ⟨rfl,rfl,rfl,rfl,rfl,rfl,rfl,trivial⟩ ?_);refine CG bb (λL s O=>∃(ah:LH) (am:Seg),L=[(0,.func (.yield ly) #[] #[]),(1,.pointer (some ⟨kc,V,none⟩)),(3,.int .u8 ((K.2:Nat):Int)),(8,.int .u8 ((Z:Nat):Int)),(9,.int .u8 ((K.2:Nat):Int)),(15,.int .u8 ((aj:Nat):Int)),(16,.int .u8 ((O.2:Nat):Int))]/\s=Ae ah H [am]/\Le Y ah/\Ak ah H [am]/\I O.1 ah am) ⟨Y,ae,rfl,rfl,(Le.refl _),aF,aG⟩ ?_;rintro _ _ O ⟨ah,am,rfl,rfl,aJ,aK,aL⟩ bl ⟨ap,aw⟩ bm;have ay:=aw;unfold PG at ay;refine JL.seq (JL.region ?_);refine Ac (v:=.bool (decide ((((O.2):Nat):Int)<(((aj):Nat):Int)))) rfl rfl rfl (λρ h=>Yl.lss (h _ _ rfl) (h _ _ rfl)) (JL.done ?_);refine JL.seq (AU (p:=(((O.2):Nat):Int)<(((aj):Nat):Int)) rfl (λaz=>?_) (λaz=>?_));have aM:=ay;rw[d5 az] at aM;refine JL.skip ?_;refine JL.seq ?_;refine JL.block ?_;refine JL.seq ?_;refine JL.region ?_;refine Ac (v:=.int .u8 ((O.2:Nat):Int)) rfl rfl rfl (λρ h=>Yl.move (h _ _ rfl)) ?_;refine Ac (v:=.int .u8 ((O.2:Nat):Int)) rfl rfl rfl (λρ h=>Yl.assign (h _ _ rfl)) ?_;refine JL.done ?_;refine JL.seq ?_;refine JL.region ?_;refine Ac (v:=.func (.yield ly) #[] #[]) rfl rfl rfl (λρ h=>Yl.move (h _ _ rfl)) ?_;refine Ac (v:=.int .u8 ((K.2:Nat):Int)) rfl rfl rfl (λρ h=>Yl.move (h _ _ rfl)) ?_;refine Ac (v:=.int .u8 ((O.2:Nat):Int)) rfl rfl rfl (λρ h=>Yl.move (h _ _ rfl)) ?_;refine Ac (v:=.agg #[.int .u8 ((K.2:Nat):Int),.int .u8 ((O.2:Nat):Int)]) rfl rfl rfl (λρ h=>Cf [(0,1),(1,1)] h J8 Tryz.underlying89 ⟨rfl,AB Tryz.type87,rfl,AB Tryz.type87,trivial⟩ rfl rfl) ?_;let⟨aN,bn,bo⟩:=bind_some aM;refine PL (vs:=[.agg #[.int .u8 ((K.2:Nat):Int),.int .u8 ((O.2:Nat):Int)]]) 0 (aQ bn aL) rfl rfl rfl rfl rfl aK rfl ?_;rintro _ bp bq br ⟨rfl,bu⟩ bv;refine Ac (v:=.bool false) rfl rfl rfl (λρ h=>Yl.not (c:=true) (h _ _ rfl)) ?_;refine JL.done ?_;refine I4 rfl ?_;refine JL.skip ?_;refine Bv ?_;refine JL.region ?_;refine Ac (v:=.int .u8 (((O.2+1)%256:Nat):Int)) rfl rfl rfl (λρ h=>PO (h _ _ rfl) (h _ _ rfl)) ?_;refine Ac (v:=.int .u8 (((O.2+1)%256:Nat):Int)) rfl rfl rfl (λρ h=>Yl.move (h _ _ rfl)) ?_;refine JL.done ?_;have bE:ap=.more (aN,(O.2+1)%256):=(d0 bo).symm;subst ap;refine Ap ?_ (bm _ _ (aN,(O.2+1)%256) ⟨bp,bq,rfl,rfl,(aJ.trans br),bv,bu⟩ aw);exact⟨rfl,rfl,rfl,rfl,rfl,rfl,rfl,trivial⟩;have aO:=ay;rw[d7 az] at aO;refine JL.exit rfl ?_;have bF:ap=.done (Sum.inr O.1):=(d0 aO).symm;subst ap;have bw:aI=(Sum.inr O.1):=(bl _ aw).symm;refine Ap ?_ (bj _ _ ⟨O.1,ah,am,bw,rfl,rfl,aJ,aK,aL⟩);exact⟨rfl,rfl,rfl,rfl,trivial⟩;have aP:=au;rw[d7 av] at aP;refine JL.exit rfl ?_;have bG:ao=.done (Sum.inr K.1):=(d0 aP).symm;subst ao;have bx:aE=(Sum.inr K.1):=(a7 _ ar).symm;refine Ap ?_ (a6 _ _ ⟨K.1,Y,ae,bx,rfl,rfl,aq,aF,aG⟩);exact trivial
def Ig:Code->Option (Code×Code)
 | .rangeFunc _ _ a b=>some (a,b)
 | .seq a b=>(Ig a).orElse λ_=>Ig b
 | .cond _ a b=>(Ig a).orElse λ_=>Ig b
 | .block _ a=>Ig a
 | .loop a=>Ig a
 | _=>none
noncomputable def Hs:Code:=match(Tryz.f39.body).bind Ig with | some c=>c.1 | none=>.skip
noncomputable def Hr:Code:=match(Tryz.f39.body).bind Ig with | some c=>c.2 | none=>.skip
theorem Uf:D7 Tryz.prog 89 (rP (rN .u8) (rN .u8)) true 2:=D7.two Tryz.underlying89 ((D7.nat Tryz.underlying87 DU).up (by decide)) ((D7.nat Tryz.underlying87 DU).up (by decide)) (by decide+kernel) (by decide) (by decide) V V Cq
theorem Qq:HE Tryz.prog 89 (rP (rN .u8) (rN .u8)) true:=Uf.key (by decide)
def Ii(ac:List (Nat×Nat)):List ((Nat×Nat)×Bool):=ac.foldl (λm w=>Ej m w true) []
variable{ac:List (Nat×Nat)}
theorem Sk{K:List (Nat×Nat)}{p:(Nat×Nat)}(h:room ac p=some K):Ii K=Ej (Ii ac) p true:=by
 obtain⟨_,rfl⟩:=Nt h;unfold Ii;rw[List.foldl_append];rfl
def IV(l U K V Y:Nat)(T:Av_)(ac:List (Nat×Nat))(E:LH)(X:Seg):Prop:=
 ∃a c g O,X=(l,.loop ⟨.ready,none,39,T,#[14],Hs,Hr,Y⟩)::([(U,.cells #[.slice a ac.length c] 84 (0,0))]++(g++ [(K,O)]))/\OL 89 (rP (rN .u8) (rN .u8)) E a c g ac/\Df (rP (rN .u8) (rN .u8)) true rB false E O (Ii ac)/\At E V 0 [.map (some K)]
variable{l:Nat}{T:Av_}
theorem IV.Ag:∀(ac:List (Nat×Nat)) (E E':LH) (X:Seg),Le E E'->IV l K O c2 V T ac E X->IV l K O c2 V T ac E' X:=
 λ_ _ _ _ hle ⟨a,c,g,Y,h1,Z,aa,ab⟩=>⟨a,c,g,Y,h1,Z.Ag hle,aa.Ag hle,ab.Ag hle⟩
theorem UA{J:Judge Tryz.prog}(an:Has Tryz.f39.ntmps [(3,.pointer (some ⟨K,0,none⟩)),(4,.pointer (some ⟨Y,0,none⟩))] T){E:LH}{X:Seg}{p:(Nat×Nat)}{Z:List (Nat×Nat)}(aj:room ac p=some Z)(ao:IV l K O Y c2 T ac E X):
  He J (.func (.yield l) #[] #[]) [.agg #[.int .u8 ((p.1:Nat):Int),.int .u8 ((p.2:Nat):Int)]] E X (λw E' ap=>w=.bool true/\IV l K O Y c2 T Z E' ap):=by
 obtain⟨a,c,g,ak,rfl,aq,ar,hm⟩:=ao;have au:(room ac p).bind some=some Z:=by rw[aj];rfl
 refine He.yield (i:=0) (t:=14) rfl rfl λQ av cs H ah aw=>?_;refine(?_:JL J Q (QT l 39) Tryz.f39.ntmps [(14,.agg #[.int .u8 ((p.1:Nat):Int),.int .u8 ((p.2:Nat):Int)]),(3,.pointer (some ⟨K,0,none⟩)),(4,.pointer (some ⟨Y,0,none⟩))] [] [.code Hs,.beginRound,.code Hr] (av::cs) _) _ (an.put (d:=some 14) rfl _);refine EJ (S':=[[(l,.loop ⟨.ready,none,39,T,#[14],Hs,Hr,c2⟩)],[(K,.cells #[.slice a ac.length c] 84 (0,0))],g,[(O,ak)]]) (by simp) ah λah=>JL.region (JS.alloc rfl rfl rfl ah J8 λr1 ay=>?_);refine JS.store (v:=.agg #[.int .u8 ((p.1:Nat):Int),.int .u8 ((p.2:Nat):Int)]) (off:=0) 4 rfl rfl rfl ay rfl rfl Cq (by simp[Value.cells,A3]) rfl (d4 rfl) λaz=>A8 4 az rfl λaA V aa aB=>?_;replace aa:At aA r1 0 [.int .u8 ((p.1:Nat):Int),.int .u8 ((p.2:Nat):Int)]:=aa;refine JL.done (JL.beginRound 0 rfl rfl aB rfl rfl λaC=>?_);refine AT (S':=[[(l,.loop ⟨.busy,none,39,T,#[14],Hs,Hr,c2⟩)],[(K,.cells #[.slice a (ac).length c] 84 (0,0))],g,[(O,ak)],[]]) rfl aC λal=>JL.block (JL.seq ?_);refine JL.region (Ac (v:=.slice a (ac).length c) rfl rfl rfl (λρ h=>Yl.load JZ (h _ _ rfl) (CB (j:=1) (off:=0) al rfl rfl)) ?_);refine Ac (v:=.agg #[.int .u8 ((p.1:Nat):Int),.int .u8 ((p.2:Nat):Int)]) rfl rfl rfl (λρ h=>Bm (vs:=[.int .u8 ((p.1:Nat):Int),.int .u8 ((p.2:Nat):Int)]) F4 Cq (h _ _ rfl) (At.Cl aa)) ?_;let⟨ab,aD,aE⟩:=bind_some au;refine JS.app (pp:=(rP (rN .u8) (rN .u8))) (v:=.agg #[.int .u8 ((p.1:Nat):Int),.int .u8 ((p.2:Nat):Int)]) (a:=a) (c:=c) 2 aD rfl rfl rfl rfl (λ_=>rfl) rfl (λ_=>rfl) rfl rfl rfl Tryz.underlying84 Tryz.underlying84 Tryz.underlying84 Cq (EK Tryz.type89) J8 rfl (by decide) (by decide) (by decide) (by decide) (aq.Ag V) ⟨_,_,rfl,rfl,rfl⟩ al rfl λaN ae ag am aF aG=>JS.store (v:=.slice ae (ab).length ag) (off:=0) 1 rfl rfl rfl aG rfl rfl (AB Tryz.type84) (by simp[Value.cells,A3]) rfl (d4 rfl) λaH=>JL.done (JL.region ?_);refine Ac (v:=.map (some O)) rfl rfl rfl (λρ h=>Yl.load M1 (h _ _ rfl) (At.AN (j:=0) (hm.Ag V) rfl)) (Ac (v:=.agg #[.int .u8 ((p.1:Nat):Int),.int .u8 ((p.2:Nat):Int)]) rfl rfl rfl (λρ h=>Bm (vs:=[.int .u8 ((p.1:Nat):Int),.int .u8 ((p.2:Nat):Int)]) F4 Cq (h _ _ rfl) (At.Cl aa)) ?_);refine JS.mapUpdate (xs:=(Ii ac)) (x0:=p) (v0:=true) 3 Qq Tryz.underlying113 (ar.Ag V) ⟨_,⟨_,_,rfl,rfl,rfl⟩,rfl⟩ ⟨_,rfl,rfl⟩ aH rfl rfl rfl rfl rfl rfl rfl λai aI aJ=>JL.done (Bv ?_);refine AT (S':=[[(l,.loop ⟨.busy,none,39,T,#[14],Hs,Hr,c2⟩)],[(K,.cells #[.slice ae (ab).length ag] 84 (0,0))],am,[(O,ai)],[]]) rfl aJ λaK=>EJ (S':=[[(l,.loop ⟨.busy,none,39,T,#[14],Hs,Hr,c2⟩)],[(K,.cells #[.slice ae (ab).length ag] 84 (0,0))],am,[(O,ai)]]) (by simp) aK λaL=>JL.endRound 0 rfl rfl aL rfl λaM=>?_;obtain rfl:ab=Z:=d0 aE;exact aw _ _ _ _ V rfl ⟨rfl,ae,ag,_,ai,by simp,aF,by rw[Sk aj];exact aI,(hm.Ag V)⟩ aM
end Pal
namespace Pal
open Go Go.Conc
variable{m':M4}{w:World}{q:Nat}{R X Y:Ph->GP}
section
variable {P:Program}{F:Fam}
theorem M4.Vx{m:M4}(h:m.num=m'.num):m=m':=by
  obtain⟨l,k,s,w⟩:=m;obtain⟨l',k',s',w'⟩:=m';simp only[M4.num] at h;cases l<;>cases k<;>cases s<;>cases l'<;>cases k'<;>cases s'<;>simp only[kP,kF] at h<;>first
    | (have e:w=w':=by omega
       subst e;rfl)
    | (exfalso;omega)
theorem ID{m:M4}(h:F.MU w m q):w.cell? F.uA=some (.int .i32 m.num)/\w.cell? F.qA=some (.int .u32 q)/\w.frozen? F.uA=false/\w.frozen? F.qA=false:=by
 unfold Fam.MU Fam.Gp at h;refine⟨?_,?_,?_,?_⟩;simp[World.cell?,Fam.uA,h];simp[World.cell?,Fam.qA,h];simp[World.frozen?,Fam.uA,h];simp[World.frozen?,Fam.qA,h]
theorem Pd{m:M4}(h:F.MU w m q):w.setCell F.uA (.int .i32 m'.num)=F.Ek w m' q:=by
 unfold Fam.Ek World.setCell;congr 1;apply lf;intro i;unfold Fam.MU Fam.Gp at h;rw[lK];have O:F.mu<w.heap.size:=by
  rcases kC F.mu w.heap.size with K | K;exact K;simp[kJ K] at h
 by_cases e:F.mu=i;subst e;rw[kD O,h];simp[Fam.uA,Fam.Gp];rw[f6 e];simp[Fam.uA,e]
theorem Pm{m:M4}{q':Nat}(h:F.MU w m q):w.setCell F.qA (.int .u32 q')=F.Ek w m q':=by
 unfold Fam.Ek World.setCell;congr 1;apply lf;intro i;unfold Fam.MU Fam.Gp at h;rw[lK];have O:F.mu<w.heap.size:=by
  rcases kC F.mu w.heap.size with K | K;exact K;simp[kJ K] at h
 by_cases e:F.mu=i;subst e;rw[kD O,h];simp[Fam.qA,Fam.Gp];rw[f6 e];simp[Fam.qA,e]
theorem Pn{m:M4}(h:F.MU w m q):F.Ek w m q=w:=by
 unfold Fam.Ek;have:w.heap.setIfInBounds F.mu (F.Gp m.num q)=w.heap:=by
  apply lf;intro i;by_cases e:F.mu=i
  .subst e;unfold Fam.MU at h;have O:F.mu<w.heap.size:=by
    rcases kC F.mu w.heap.size with K | K;exact K;simp[kJ K] at h
   rw[kD O,h]
  .rw [f6 e]
 rw[this]
theorem Fe.put{m:M4}:Fe w (F.Ek w m q) (F.Ek w m q):=⟨V,V,.refl _,V⟩
theorem Fe.self{m:M4}(h:F.MU w m q):Fe w (F.Ek w m q) w:=by rw[Pn h];exact⟨rfl,rfl,.refl _,rfl⟩
def KC(P:Program)(F:Fam)(X Y:Ph->GP):Prop:=∀p g s,ER P F X p g s->Y p g s
abbrev Cj(P:Program)(F:Fam)(X:Ph->GP):Prop:=KC P F X X
theorem Cj.stop:Cj P F (Stop P F):=λ_ _ _ h=>h.stop
def G6(P:Program)(F:Fam)(R:Ph->GP)(p:Ph)(g:Goroutine)(s:St):Prop:=∃X:Ph->GP,(∀p g s,X p g s->ER P F (λp g s=>X p g s∨R p g s) p g s)/\X p g s
def QU(P:Program)(F:Fam)(R:Ph->GP)(p:Ph)(g:Goroutine)(s:St):Prop:=G6 P F R p g s∨R p g s
theorem G6.of{p:Ph}{g:Goroutine}{s:St}(h:Stop P F p g s):G6 P F R p g s:=
 let ⟨X,h1,K⟩:=h
 ⟨X,λp g s O=>(h1 p g s O).Ag P F λ_ _ _ h=>.inl h,K⟩
theorem G6.to:KC P F (QU P F R) (G6 P F R):=λp g s h=>by
 refine⟨λK g' s'=>G6 P F R K g' s'∨(K=p/\g'=g/\s'=s),λK g' s' O=>?_,.inr ⟨rfl,rfl,rfl⟩⟩
 rcases O with⟨X,h1,U⟩ | ⟨rfl,rfl,rfl⟩
 .refine(h1 K g' s' U).Ag P F λp g s h=>?_
  rcases h with h | h;exact .inl (.inl ⟨X,h1,h⟩);exact .inr h
 .refine h.Ag P F λp g s h=>?_;rcases h with h | h;exact .inl (.inl h);exact .inr h
theorem Cj.Q3:Cj P F (QU P F R):=λp g s h=>.inl (G6.to p g s h)
theorem W1(h:∀p g s,R p g s->G6 P F R p g s){p:Ph}{g:Goroutine}{s:St}(O:R p g s):Stop P F p g s:=by
 refine⟨G6 P F R,λp g s O=>?_,h p g s O⟩;obtain⟨X,h1,U⟩:=O;refine(h1 p g s U).Ag P F λp g s K=>?_;rcases K with K | K;exact⟨X,h1,K⟩;exact h p g s K
theorem Hq(O:KC P F X Y){k:Nat}{p:LP}{g:Goroutine}{s:St}(U:g.status=.running)(K:g.offers=none)(V:s.q=false)(Z:p≠ .DF)(aa:∀sv,p=.BL sv->∀w m,F.MU w m 0->stepG P false g w=.go {g with status:=.blocked} w #[])(ab:∀b,p=.Dx b->mayWake P g=true)
  (h:∀w m q,F.MU w m q->Cv p m q->∃m' q' es x g' w',(m',q',es,x)∈F.Bn p m q/\stepG P false g w=.go g' w' es/\Fe w (F.Ek w m' q') w'/\g'.status=.running/\Way P false (X (Fam.Cc k x)) g' s):Y (.lk k p) g s:=
 O _ _ _ {
  run:=U,offers:=K,quiet:=(by simp[Fam.BW]),live:=λ_=>V,act:=(by simp[Fam.act]),GK:=λe=>by
   rcases e with e | ⟨k',b,e⟩;cases e;cases e;exact ab b rfl
  Ds:=(by simp),go:=(by simp),lk:=λk' l e ac w m q hm K=>by cases e;exact h w m q hm K
  BL:=λk' sv e w m hm=>by cases e;exact aa sv rfl w m hm
  store:=λk' e=>by cases e;exact absurd rfl Z
  take:=(by simp)
  fin:=(by simp)}
end
variable {ops:Ao_}{i:Nat}{rest:List Nat}{d:Option Tmp}{f:FuncId}{x y z:Operand}{args:Array Operand}{vs:Lv_}{ats:Array TypeId}{ty t u tw:TypeId}{pp:String}{af:Ae_}{g:On_}{p:LP}{kk:Nat}
variable{o:Option LP}{nw old:M4}
section
variable {P:Program}{F:Fam}{n:Nat}{L L':Env}{ds:Ld_}{k:Li_}{cs:Lf_}{s s':St}{b:Frame}
def GB:LP->Bool
 | .DF | .BL _ | .Dx _=>false
 | _=>true
theorem IA(h:GB p=true):p≠ .DF:=λe=>by subst e;cases h
theorem Iw(h:GB p=true){X:Bool->Prop}:∀sv,p=.BL sv->X sv:=λsv e=>by subst e;cases h
theorem Ix(h:GB p=true){X:Bool->Prop}:∀sv,p=.Dx sv->X sv:=λsv e=>by subst e;cases h
theorem Ja(Y:Cj P F X){mk:Mark}(Z:s.q=false)(K:GB p=true)(aa:∀m q,F.Bn p m q=[(m,q,#[Fam.BJ mk],o)])
  (ab:ops[i]?=some ⟨d,.call ⟨.value (.func f),args,ats⟩,ty,pp,af,g⟩) (U:b.roundOf=none) (hw:AO L ops ⟨d,.call ⟨.value (.func f),args,ats⟩,ty,pp,af,g⟩=some true) (O:((b.kind != .early)&&A5 n d)=true)
  (hm:∀x,mk≠ .extern x) (he:Bq P f (λ_=>do mark mk;pure Extern.Race.none_))
  (h:JL (AF P false) (X (Fam.Cc kk o)) b n (Az L d (.tuple #[])) ds (.inRegion ops rest::k) cs s):
  JL (AF P false) (X (.lk kk p)) b n L ds (.inRegion ops (i::rest)::k) cs s:=λT V=>by
 simp only[f5] at O
 obtain⟨fn,ac,ae,hb,ag,he⟩:=he.h
 refine(AF P _).stop (Hq Y rfl rfl Z (IA K) (Iw K) (Ix K) λw m q ah ai=>?_)
 refine⟨m,q,_,o,_,w,by rw[aa];exact d6.2 rfl,?_,Fe.self ah,rfl,h _ (V.put O.2 _)⟩
 rw[Be U,Be U,stepG_mark0 (a:=⟨T,ds⟩) mk hm ab (BF V hw) (by simpa using O.1) rfl ac ae hb ag he,CH]
 rfl
theorem NU(Y:Cj P F X){mk:Addr->Mark}{ad:Addr}(Z:s.q=false)(K:GB p=true)(aa:∀m q,F.Bn p m q=[(m,q,#[Fam.BJ (mk ad)],o)])
  (ab:ops[i]?=some ⟨d,.call ⟨.value (.func f),args,ats⟩,ty,pp,af,g⟩) (V:b.roundOf=none) (hw:AO L ops ⟨d,.call ⟨.value (.func f),args,ats⟩,ty,pp,af,g⟩=some true) (O:((b.kind != .early)&&A5 n d)=true)
  (hm:∀ad x,mk ad≠ .extern x) (he:Bq P f (Extern.Race.marked mk)) (ac:evs L args.toList=some vs) (ae:vs[0]?=some (.pointer (some ad)))
  (h:JL (AF P false) (X (Fam.Cc kk o)) b n (Az L d (.tuple #[])) ds (.inRegion ops rest::k) cs s):
  JL (AF P false) (X (.lk kk p)) b n L ds (.inRegion ops (i::rest)::k) cs s:=λT U=>by
 simp only[f5] at O
 obtain⟨fn,ag,ah,hb,ai,he⟩:=he.h
 refine(AF P _).stop (Hq Y rfl rfl Z (IA K) (Iw K) (Ix K) λw m q aj ak=>?_)
 refine⟨m,q,_,o,_,w,by rw[aa];exact d6.2 rfl,?_,Fe.self aj,rfl,h _ (U.put O.2 _)⟩
 rw[Be V,Be V,stepG_markAt (a:=⟨T,ds⟩) mk hm ab (BF U hw) (by simpa using O.1) rfl ag ah hb ai he (ad:=ad) (by rw[Im U ac];simpa using ae),CH]
 rfl
theorem Nu(ag:Cj P F X)(ah:s.q=false)(K:GB p=true)(ai:∀m q,F.Bn p m q=[(m,q,#[],o)])
  (aj:ops[i]?=some ⟨d,.convert t u x,ty,pp,af,g⟩) (V:b.roundOf=none) (hw:AO L ops ⟨d,.convert t u x,ty,pp,af,g⟩=some true) (O:((b.kind != .early)&&A5 n d)=true)
  (Y:P.underlying t=some (.pointer tw)) (hu:P.underlying u=some .unsafePointer) (Z:(P.info? tw).map (λi=>decide (i.size=0))=some false) (ak:ev L x=some (.pointer (some F.uA)))
  (h:JL (AF P false) (X (Fam.Cc kk o)) b n (Az L d (.pointer (some F.uA))) ds (.inRegion ops rest::k) cs s):
  JL (AF P false) (X (.lk kk p)) b n L ds (.inRegion ops (i::rest)::k) cs s:=λT U=>by
 simp only[f5] at O
 refine(AF P _).stop (Hq ag rfl rfl ah (IA K) (Iw K) (Ix K) λw m q aa am=>?_)
 refine⟨m,q,_,o,_,w,by rw[ai];exact d6.2 rfl,?_,Fe.self aa,rfl,h _ (U.put O.2 _)⟩
 have ab:=(ID aa).1
 have ac:=run_convert_to_unsafe (P:=P) (w:=w) Y hu Z ab
 have al:=events_convert_to_unsafe (P:=P) (w:=w) Y hu Z ab
 have ae:execOp (⟨T,ds⟩:Act).eval ⟨d,.convert t u x,ty,pp,af,g⟩=(do pure (Next.value (← Go.convert t u (.pointer (some F.uA))))):=by
  rw[Iy];simp only[execOp,U.ev ak]
 rw[Be V,Be V,stepG_value (a:=⟨T,ds⟩) (v:=.pointer (some F.uA)) (w':=w) aj (BF U hw) (by simpa using O.1) (by rw[ae];simp[ac,Result.andThen]),CH];have e2:listed P b.fn ⟨T,ds⟩ ⟨d,.convert t u x,ty,pp,af,g⟩ w=#[]:=by
  unfold listed;rw[ae];simp[ac,al,Result.evThen,seen_none]
 rw[e2]
theorem NG(am:KC P F X Y)(an:s.q=false)(V:GB p=true)
  (ac:ops[i]?=some ⟨d,.call ⟨.value (.func f),#[x,y,z],ats⟩,ty,pp,af,g⟩) (U:b.roundOf=none) (hw:AO L ops ⟨d,.call ⟨.value (.func f),#[x,y,z],ats⟩,ty,pp,af,g⟩=some true) (O:((b.kind != .early)&&A5 n d)=true)
  (he:Bq P f (Extern.Atomic.casT (.int .i32))) (ae:ev L x=some (.pointer (some F.uA))) (ag:ev L y=some (.int .i32 old.num)) (ah:ev L z=some (.int .i32 nw.num))
  (h1:∀q,Cv p old q->∃o,(nw,q,#[Fam.Br F.uA,Fam.Cx F.uA],o)∈F.Bn p old q/\JL (AF P false) (X (Fam.Cc kk o)) b n (Az L d (.bool true)) ds (.inRegion ops rest::k) cs s)
  (ao:∀m q,m≠old->Cv p m q->∃o,(m,q,#[Fam.Br F.uA],o)∈F.Bn p m q/\JL (AF P false) (X (Fam.Cc kk o)) b n (Az L d (.bool false)) ds (.inRegion ops rest::k) cs s):
  ∀T,Has n L T->Y (.lk kk p) (G (fr b T ds (.inRegion ops (i::rest)::k)) cs) s:=λT K=>by
 simp only[f5] at O
 obtain⟨fn,ai,aj,hb,ak,he⟩:=he.h
 refine(Hq am rfl rfl an (IA V) (Iw V) (Ix V) λw m q Z al=>?_)
 let⟨c1,_,c3,_⟩:=ID Z
 by_cases e:m=old
 .subst e
  let⟨o,aa,ab⟩:=h1 q al;refine⟨_,_,_,o,_,_,aa,?_,Fe.put,rfl,ab _ (K.put O.2 _)⟩;rw[Be U,Be U,stepG_cas_hit (a:=⟨T,ds⟩) ac (BF K hw) (by simpa using O.1) rfl ai aj hb ak .i32 he (by rw[CQ];exact K.ev ae) (by rw[CQ];exact K.ev ag) (by rw[CQ];exact K.ev ah) c1 c3,Pd Z,CH]
  rfl
 .let⟨o,aa,ab⟩:=ao m q e al;refine⟨_,_,_,o,_,w,aa,?_,Fe.self Z,rfl,ab _ (K.put O.2 _)⟩;rw[Be U,Be U,stepG_cas_miss (a:=⟨T,ds⟩) ac (BF K hw) (by simpa using O.1) rfl ai aj hb ak .i32 he (by rw[CQ];exact K.ev ae) (by rw[CQ];exact K.ev ag) (by rw[CQ];exact K.ev ah) c1 c3 (λq=>e (M4.Vx q)),CH]
  rfl
theorem PK(K:Cj P F X)(O:s.q=false)(U:GB p=true)
  (V:ops[i]?=some ⟨d,.call ⟨.value (.func f),#[x,y,z],ats⟩,ty,pp,af,g⟩) (Y:b.roundOf=none) (hw:AO L ops ⟨d,.call ⟨.value (.func f),#[x,y,z],ats⟩,ty,pp,af,g⟩=some true) (Z:((b.kind != .early)&&A5 n d)=true)
  (he:Bq P f (Extern.Atomic.casT (.int .i32))) (aa:ev L x=some (.pointer (some F.uA))) (ab:ev L y=some (.int .i32 old.num)) (ac:ev L z=some (.int .i32 nw.num))
  (h1:∀q,Cv p old q->∃o,(nw,q,#[Fam.Br F.uA,Fam.Cx F.uA],o)∈F.Bn p old q/\JL (AF P false) (X (Fam.Cc kk o)) b n (Az L d (.bool true)) ds (.inRegion ops rest::k) cs s)
  (ae:∀m q,m≠old->Cv p m q->∃o,(m,q,#[Fam.Br F.uA],o)∈F.Bn p m q/\JL (AF P false) (X (Fam.Cc kk o)) b n (Az L d (.bool false)) ds (.inRegion ops rest::k) cs s):
  JL (AF P false) (X (.lk kk p)) b n L ds (.inRegion ops (i::rest)::k) cs s:=λT ag=>(AF P _).stop (NG K O U V Y hw Z he aa ab ac h1 ae T ag)
theorem FH(Z:Cj P F X){dl:Int}(aa:s.q=false)(O:GB p=true)
  (ab:ops[i]?=some ⟨d,.call ⟨.value (.func f),#[x,y],ats⟩,ty,pp,af,g⟩) (V:b.roundOf=none) (hw:AO L ops ⟨d,.call ⟨.value (.func f),#[x,y],ats⟩,ty,pp,af,g⟩=some true) (U:((b.kind != .early)&&A5 n d)=true)
  (he:Bq P f (Extern.Atomic.update (Op.intArith .add) .i32 true)) (ac:ev L x=some (.pointer (some F.uA))) (ae:ev L y=some (.int .i32 dl))
  (h:∀m q,Cv p m q->∃m' o,IntKind.i32.wrap (m.num+dl)=m'.num/\(m',q,#[Fam.Br F.uA,Fam.Cx F.uA],o)∈F.Bn p m q/\JL (AF P false) (X (Fam.Cc kk o)) b n (Az L d (.int .i32 m'.num)) ds (.inRegion ops rest::k) cs s):
  JL (AF P false) (X (.lk kk p)) b n L ds (.inRegion ops (i::rest)::k) cs s:=λT K=>by
 simp only[f5] at U
 obtain⟨fn,ag,ah,hb,ai,he⟩:=he.h
 refine(AF P _).stop (Hq Z rfl rfl aa (IA O) (Iw O) (Ix O) λw m q Y aj=>?_)
 let⟨c1,_,c3,_⟩:=ID Y
 let⟨m',o,ak,al,am⟩:=h m q aj
 refine⟨_,_,_,o,_,_,al,?_,Fe.put,rfl,am _ (K.put U.2 _)⟩
 rw[Be V,Be V,stepG_add_atomic (a:=⟨T,ds⟩) ab (BF K hw) (by simpa using U.1) rfl ag ah hb ai .i32 he (by rw[CQ];exact K.ev ac) (by rw[CQ];exact K.ev ae) c1 c3,ak,Pd Y,CH]
 rfl
theorem Pj(ae:Cj P F X){sv:Bool}(ag:s.q=false)(Y:ops[i]?=some ⟨d,.call ⟨.value (.func f),args,ats⟩,ty,pp,af,g⟩)(U:b.roundOf=none)(hw:AO L ops ⟨d,.call ⟨.value (.func f),args,ats⟩,ty,pp,af,g⟩=some true)(V:((b.kind != .early)&&A5 n d)=true)
  (he:Bq P f Extern.Sync.semacquire) (ah:evs L args.toList=some vs) (ai:vs[0]?=some (.pointer (some F.qA)))
  (h:JL (AF P false) (X (.lk kk (if sv then .CS true else .Ei))) b n (Az L d (.tuple #[])) ds (.inRegion ops rest::k) cs s):
  JL (AF P false) (X (.lk kk (.BL sv))) b n L ds (.inRegion ops (i::rest)::k) cs s:=λT K=>by
 simp only[f5] at V
 obtain⟨fn,Z,aa,hb,ab,he⟩:=he.h
 have ac:(args.map (⟨T,ds⟩:Act).eval)[0]?=some (.pointer (some F.qA)):=by rw[Im K ah];simpa using ai
 refine(AF P _).stop (Hq ae rfl rfl ag (by simp) (λal e w m O=>?_) (by simp) λw m q O aj=>?_);let⟨_,c2,_,c4⟩:=ID O;rw[Be U];exact stepG_semacquire_wait (a:=⟨T,ds⟩) Y (BF K hw) rfl Z aa hb ab he (ad:=F.qA) ac c2
 .let⟨_,c2,_,c4⟩:=ID O;have am:q≠0:=aj;refine⟨m,q - 1,_,some (if sv then .CS true else .Ei),_,_,d6.2 rfl,?_,Fe.put,rfl,h _ (K.put V.2 _)⟩
  have ak:((q:Int) - 1)=((q - 1:Nat):Int):=by omega
  rw[Be U,Be U,stepG_semacquire (a:=⟨T,ds⟩) Y (BF K hw) (by simpa using V.1) rfl Z aa hb ab he (ad:=F.qA) ac c2 (by omega) c4,CH,ak,Pm O]
theorem Pz(Z:Cj P F X){st:Bool}(aa:s.q=false)(U:ops[i]?=some ⟨d,.call ⟨.value (.func f),args,ats⟩,ty,pp,af,g⟩)(V:b.roundOf=none)(hw:AO L ops ⟨d,.call ⟨.value (.func f),args,ats⟩,ty,pp,af,g⟩=some true)(K:((b.kind != .early)&&A5 n d)=true)
  (he:Bq P f Extern.Sync.semrelease) (ab:evs L args.toList=some vs) (ac:vs[0]?=some (.pointer (some F.qA)))
  (h:JL (AF P false) (X (.lk kk .DC)) b n (Az L d (.tuple #[])) ds (.inRegion ops rest::k) cs s):
  JL (AF P false) (X (.lk kk (.Dx st))) b n L ds (.inRegion ops (i::rest)::k) cs s:=λT O=>by
 simp only[f5] at K
 have ae:=PR (P:=P) (b:=b) (ds:=ds) (k:=k) (cs:=cs) (rest:=rest) (T:=T) U he
 obtain⟨fn,ag,ah,hb,ai,he⟩:=he.h
 have aj:(args.map (⟨T,ds⟩:Act).eval)[0]?=some (.pointer (some F.qA)):=by rw[Im O ab];simpa using ac
 refine(AF P _).stop (Hq Z rfl rfl aa (by simp) (by simp) (λ_ _=>ae) λw m q Y ak=>?_);let⟨_,c2,_,c4⟩:=ID Y;have am:q<=1:=ak.1;refine⟨m,q+1,_,some .DC,_,_,d6.2 rfl,?_,Fe.put,rfl,h _ (O.put K.2 _)⟩;have al:IntKind.u32.wrap ((q:Int)+1)=((q+1:Nat):Int):=by
  have:q=0∨q=1:=by omega
  rcases this with rfl | rfl<;>decide
 rw[Be V,Be V,stepG_semrelease (a:=⟨T,ds⟩) U (BF O hw) (by simpa using K.1) rfl ag ah hb ai he (ad:=F.qA) aj c2 c4,CH,al,Pm Y]
theorem RL(K:DZ P t=some false)(w:World):(isAgg t).run P w=.ok false w:=by
 unfold DZ at K;simp only[isAgg,underlying,bind,Sem.bind,program,Sem.run];cases hu:P.underlying t with
 | none=>rw[hu] at K;cases K
 | some u=>
  rw[hu] at K;cases u<;>simp at K<;>rfl
theorem FK(ac:Cj P F X)(ae:s.q=false)(K:GB p=true)
  (ag:ops[i]?=some ⟨d,.load t x,ty,pp,af,g⟩) (V:b.roundOf=none) (hw:AO L ops ⟨d,.load t x,ty,pp,af,g⟩=some true) (O:((b.kind != .early)&&A5 n d)=true)
  (ah:DZ P t=some false) (ai:(P.funcs[b.fn]?).any (·.norace)=true) (aj:ev L x=some (.pointer (some F.uA)))
  (h:∀m q,Cv p m q->∃o,(m,q,#[],o)∈F.Bn p m q/\JL (AF P false) (X (Fam.Cc kk o)) b n (Az L d (.int .i32 m.num)) ds (.inRegion ops rest::k) cs s):
  JL (AF P false) (X (.lk kk p)) b n L ds (.inRegion ops (i::rest)::k) cs s:=λT U=>by
 simp only[f5] at O
 refine(AF P _).stop (Hq ac rfl rfl ae (IA K) (Iw K) (Ix K) λw m q Y ak=>?_)
 let⟨o,al,am⟩:=h m q ak
 refine⟨m,q,_,o,_,w,al,?_,Fe.self Y,rfl,am _ (U.put O.2 _)⟩
 have Z:=(ID Y).1
 have aa:execOp (⟨T,ds⟩:Act).eval ⟨d,.load t x,ty,pp,af,g⟩=(do pure (Next.value (← Instr.loadAt t (.pointer (some F.uA))))):=by
  rw[Iy];simp only[execOp,U.ev aj]
 have ab:=RL (P:=P) ah w;rw[Be V,Be V,stepG_value (a:=⟨T,ds⟩) (v:=.int .i32 m.num) (w':=w) ag (BF U hw) (by simpa using O.1) (by rw[aa];simp[Instr.loadAt,Instr.sureAddr,loadVar,ab,Z,Result.andThen]),CH];have e2:listed P b.fn ⟨T,ds⟩ ⟨d,.load t x,ty,pp,af,g⟩ w=#[]:=by
  unfold listed;rw[aa];have an:(do pure (Next.value (← Instr.loadAt t (.pointer (some F.uA)))):Sem Next).events P w #[]=#[⟨.cell F.uA,false,false⟩]:=by
   simp[Instr.loadAt,Instr.sureAddr,loadVar,ab,Z,Result.evThen]
  rw[an,seen_def];simp[seenStep,ai]
 rw[e2]
theorem Ns(aa:Cj P F X)(ab:s.q=false)(K:GB p=true)
  (ac:ops[i]?=some ⟨d,.call ⟨.value (.func f),args,ats⟩,ty,pp,af,g⟩) (U:b.roundOf=none) (hw:AO L ops ⟨d,.call ⟨.value (.func f),args,ats⟩,ty,pp,af,g⟩=some true) (O:((b.kind != .early)&&A5 n d)=true)
  (he:Bq P f Extern.OsHooks.nano) (V:(P.funcs[f]?).any (·.norace)=true)
  (h:∀(m:M4) (q:Nat) (v:Int),Cv p m q->∃o,(m,q,#[],o)∈F.Bn p m q/\JL (AF P false) (X (Fam.Cc kk o)) b n (Az L d (.int .i64 v)) ds (.inRegion ops rest::k) cs s):
  JL (AF P false) (X (.lk kk p)) b n L ds (.inRegion ops (i::rest)::k) cs s:=λT Y=>by
 simp only[f5] at O
 obtain⟨fn,Z,ae,hb,ag,he⟩:=he.h
 have ah:fn.norace=true:=by rw[Z] at V;simpa using V
 refine(AF P _).stop (Hq aa rfl rfl ab (IA K) (Iw K) (Ix K) λw m q ai aj=>?_);let⟨o,ak,al⟩:=h m q ((w.os.mono+w.tick:Nat):Int) aj;refine⟨m,q,_,o,_,w.later,ak,?_,?_,rfl,al _ (Y.put O.2 _)⟩;rw[Be U,Be U,stepG_nanotime (a:=⟨T,ds⟩) ac (BF Y hw) (by simpa using O.1) rfl Z ae hb ag he ah,CH];rw[Pn ai];exact⟨rfl,rfl,⟨w.tick,rfl⟩,rfl⟩
end
variable {P:Program}{J:Judge P}{Q:GP}{L L':Env}{ds:Ld_}{k:Li_}{cs:Lf_}{s s':St}{b:Frame}
section
variable {n:Nat}
theorem JL.canSpin{it:Int}(ah:s.q=false)(Y:ops[i]?=some ⟨d,.call ⟨.value (.func f),args,ats⟩,ty,pp,af,g⟩)(U:b.roundOf=none)(hw:AO L ops ⟨d,.call ⟨.value (.func f),args,ats⟩,ty,pp,af,g⟩=some true)(K:((b.kind != .early)&&A5 n d)=true)
  (he:Bq P f Extern.Sync.canSpin) (ai:evs L args.toList=some [.int .i64 it])
  (h1:it<4->JL J Q b n (Az L d (.bool true)) ds (.inRegion ops rest::k) cs s) (Z:JL J Q b n (Az L d (.bool false)) ds (.inRegion ops rest::k) cs s):
  JL J Q b n L ds (.inRegion ops (i::rest)::k) cs s:=λT O=>by
 simp only[f5] at K
 obtain⟨fn,aa,ab,hb,ac,he⟩:=he.h
 have ae:args.map (⟨T,ds⟩:Act).eval=#[.int .i64 it]:=by rw[Im O ai]
 by_cases aj:4<=it;refine Judge.CM rfl (λw=>?_) (Z _ (O.put K.2 _));rw[Be U,Be U];have:=stepG_canSpin_no (rest:=rest) (main:=J.main) (kk:=k) (cs:=cs) (w:=w) (a:=⟨T,ds⟩) (P:=P) (b:=b) Y (BF O hw) (by simpa using K.1) rfl aa ab hb ac he ae aj;rw[this,CH]
 .have ag:it<4:=by omega
  refine J.step ⟨rfl,λw V=>⟨G (fr b (B6 T d (.bool w.spins)) ds (.inRegion ops rest::k)) cs,s,w.asked,#[],?_,?_,⟨V.e,V.h,V.d⟩,⟨kG _,λ_ _ _=>rfl,λ_ h=>.inl h,λ_ _ h=>h,λ_ h=>.inl h,rfl,rfl,rfl⟩,by simp⟩,λe=>by subst e;cases ah⟩;rw[Be U,Be U];have:=stepG_canSpin_ask (rest:=rest) (main:=J.main) (kk:=k) (cs:=cs) (w:=w) (a:=⟨T,ds⟩) (P:=P) (b:=b) Y (BF O hw) (by simpa using K.1) rfl aa ab hb ac he ae ag;rw[this,CH]
  .cases ak:w.spins with
   | true=>exact h1 ag _ (O.put K.2 _)
   | false=>exact Z _ (O.put K.2 _)
end
section
variable {P:Program}{F:Fam}
def N4{FA:Type}(P:Program)(F:Fam)(s:St)(kk:Nat)(ph:FA->LP)(head:(Ph->GP)->FA->Prop)(ok:FA->Prop)(a:FA)(g:Goroutine):Prop:=
 ∀X Y:Ph->GP,KC P F X Y->Cj P F X->(∀p g s,Stop P F p g s->X p g s)->(∀K,ok K->head X K)->Y (.lk kk (ph a)) g s
theorem Qs{FA:Type}{s:St}{kk:Nat}{ph:FA->LP}{head:(Ph->GP)->FA->Prop}{ok:FA->Prop}
  (h:∀Y:Ph->GP,Cj P F Y->(∀p g s,Stop P F p g s->Y p g s)->(∀a g,ok a->N4 P F s kk ph head ok a g->Y (.lk kk (ph a)) g s)->∀a,ok a->head Y a):∀a,ok a->head (Stop P F) a:=by
 have key:∀p g s',(s'=s/\∃a,ok a/\p=.lk kk (ph a)/\N4 P F s kk ph head ok a g)->Stop P F p g s':=λp g s' U=>by
  refine W1 (R:=λp g s'=>s'=s/\∃a,ok a/\p=.lk kk (ph a)/\N4 P F s kk ph head ok a g) (λp g s' U=>?_) U;obtain⟨rfl,a,O,rfl,K⟩:=U;exact K _ _ G6.to Cj.Q3 (λ_ _ _ h=>.inl (.of h)) (h _ Cj.Q3 (λ_ _ _ h=>.inl (.of h)) λa g O K=>.inr ⟨V,a,O,V,K⟩)
 exact h _ Cj.stop (λ_ _ _ h=>h) λa g O K=>key _ _ _ ⟨V,a,O,V,K⟩
theorem LU{n:Nat}{L:Env}{ds:Ld_}{k:Li_}{cs:Lf_}{s:St}{b:Frame}{Q K:GP}(O:∀g s,Q g s->K g s)(h:JL (AF P false) Q b n L ds k cs s):JL (AF P false) K b n L ds k cs s:=λT U=>Way.Ag O (h T U)
end
def A9(m:M4):Nat:=m.l.toNat+2*m.k.toNat+4*m.s.toNat
def M4.nat(m:M4):Nat:=m.l.toNat+2*m.k.toNat+4*m.s.toNat+8*m.w
theorem L9(m:M4):A9 m<8:=by
 have h1:=ma m.l;have K:=ma m.k;have O:=ma m.s;unfold A9;omega
theorem M4.nat_eq(m:M4):m.nat=8*m.w+A9 m:=by unfold M4.nat A9;omega
theorem M4.NP(m:M4):m.nat/8=m.w:=by have:=L9 m;rw[M4.nat_eq];omega
theorem M4.NS(m:M4):m.nat%8=A9 m:=by have:=L9 m;rw[M4.nat_eq];omega
def BI(m:M4):Prop:=m.w<200000000
theorem BI.lt{m:M4}(h:BI m):m.nat<2147483648:=by have:=L9 m;unfold BI at h;rw[M4.nat_eq];omega
theorem Ck.BI{m:M4}(h:Ck m):BI m:=by unfold Ck at h;unfold Pal.BI;omega
variable{a:Nat}
theorem U4{b:Nat}(hb:b<8):a&&& b=(a%8)&&& b:=by
 apply nh;intro i;rw[m8,m8];by_cases h:i<3;rw[show(8:Nat)=2^3 from rfl,Nat.testBit_mod_two_pow];simp[h];have:b.testBit i=false:=mo (lb hb (by rw[show(8:Nat)=2^3 from rfl];exact lw (by omega) (by omega)));rw[this];simp
theorem Qu{b:Nat}(hb:b<8):a|||b=8*(a/8)+((a%8)|||b):=by
 have h1:a=(a/8)<<<3|||(a%8):=by
  rw[← mR (by omega),Nat.shiftLeft_eq];omega
 have K:(a%8)|||b<2^3:=Nat.or_lt_two_pow (by omega) (by omega)
 calc a|||b=((a/8)<<<3|||(a%8))|||b:=by rw[← h1]
  _=(a/8)<<<3|||((a%8)|||b):=Nat.or_assoc _ _ _
  _=(a/8)<<<3+((a%8)|||b):=(mR K _).symm
  _=8*(a/8)+((a%8)|||b):=by rw[Nat.shiftLeft_eq];omega
theorem DX(h:a<2147483648):IntKind.i32.wrap (a:Int)=a:=by
 simp only[IntKind.wrap,IntKind.bits,IntKind.signed];simp;omega
theorem K1(h:a<2147483648):(BitVec.ofInt IntKind.i32.bits (a:Int)).toNat=a:=by
 simp[IntKind.bits,BitVec.toNat_ofInt];omega
theorem M4.H3(m:M4):m.num=(m.nat:Int):=rfl
variable {ρ:Operand->Value}{e:TypeId}{m:M4}
variable{c:Nat}
section
variable {p:String}
abbrev B7(n:Nat):Value:=.int .i32 (n:Int)
theorem CW(hm:BI m)(K:ρ x=.int .i32 m.num)(O:ρ y=.int .i32 (c:Int))(U:c<8):Yl P ⟨d,.binOp .and t x y u,ty,p,af,g⟩ ρ s (B7 (A9 m&&& c)):=by
 have h:=Yl.and (P:=P) (s:=s) (d:=d) (t:=t) (u:=u) (ty:=ty) (p:=p) (af:=af) (g:=g) K O;have h1:=hm.lt;rw[M4.H3,mK,K1 h1,K1 (by omega),DX (lD mz h1),U4 U,M4.NS] at h;exact h
theorem Ve{m:M4}(hm:BI m)(O:c<8)(h1:A9 m|||c=A9 m')(K:m'.w=m.w):IntKind.i32.wrap ((BitVec.ofInt IntKind.i32.bits m.num|||BitVec.ofInt IntKind.i32.bits (c:Int)).toNat:Int)=m'.num:=by
 have U:=hm.lt;have V:m.nat|||c=m'.nat:=by rw[Qu O,M4.NP,M4.NS,h1,M4.nat_eq m',K]
 have Y:m'.nat<2147483648:=by
  have:=L9 m';unfold BI at hm;rw[M4.nat_eq,K];omega
 rw[M4.H3,BitVec.toNat_or,K1 U,K1 (by omega),V,DX Y,M4.H3]
theorem Me(hm:BI m)(K:c<8)(h1:A9 m|||c=A9 m')(O:m'.w=m.w)(U:ρ x=.int .i32 m.num)(V:ρ y=.int .i32 (c:Int)):Yl P ⟨d,.binOp .or t x y u,ty,p,af,g⟩ ρ s (.int .i32 m'.num):=by
 have h:=Yl.or (P:=P) (s:=s) (d:=d) (t:=t) (u:=u) (ty:=ty) (p:=p) (af:=af) (g:=g) U V;rw[Ve hm K h1 O] at h;exact h
theorem Xz(m:M4):A9 m|||1=A9 {m with l:=true}:=by obtain⟨l,k,s,w⟩:=m;cases l<;>cases k<;>cases s<;>simp[A9]
theorem Oz(m:M4):A9 m|||2=A9 {m with k:=true}:=by obtain⟨l,k,s,w⟩:=m;cases l<;>cases k<;>cases s<;>simp[A9]
theorem Xu(m:M4):A9 m|||4=A9 {m with s:=true}:=by obtain⟨l,k,s,w⟩:=m;cases l<;>cases k<;>cases s<;>simp[A9]
theorem Yl.andNot{kd:IntKind}{a b:Int}(K:ρ x=.int kd a)(O:ρ y=.int kd b):Yl P ⟨d,.binOp .andNot t x y u,ty,p,af,g⟩ ρ s (.int kd (kd.wrap (BitVec.ofInt kd.bits a&&& ~~~ BitVec.ofInt kd.bits b).toNat)):=by
 simp[Yl,execOp,lp,pure,bind,Sem.bind,K,O,eqGuard,Go.binOp,Op.intBits]
theorem Xt(i:Nat):(2:Nat).testBit i=decide (i=1):=by
 by_cases h:i<2;exact(by decide:∀j:Fin 2,(2:Nat).testBit j.1=decide (j.1=1)) ⟨i,h⟩;rw[mo (lb (show 2<2^2 by decide) (lw (by omega) (by omega)))];simp;omega
theorem Xr(i:Nat):(4294967293:Nat).testBit i=(decide (i<32)&& !decide (i=1)):=by
 by_cases h:i<32;exact(by decide:∀j:Fin 32,(4294967293:Nat).testBit j.1=(decide (j.1<32)&& !decide (j.1=1))) ⟨i,h⟩;rw[mo (lb (show 4294967293<2^32 by decide) (lw (by omega) (by omega)))];simp[h]
theorem NW{m:M4}(hm:BI m)(K:m.k=true):m.nat&&& 4294967293=({m with k:=false}:M4).nat:=by
 have h1:m.nat=({m with k:=false}:M4).nat|||2:=by
  rw[Qu (by omega),M4.NP,M4.NS,M4.nat_eq m,Oz];obtain⟨l,k,s,w⟩:=m;simp only at K;subst K;rfl
 have U:({m with k:=false}:M4).nat<2147483648:=(show BI {m with k:=false} from hm).lt;have V:({m with k:=false}:M4).nat.testBit 1=false:=by
  rw[Nat.testBit_succ,Nat.testBit_zero];have:({m with k:=false}:M4).nat/2%2=0:=by
   have:=ma m.l;simp only[M4.nat,kF];omega
  simp[this]
 rw[h1];apply nh;intro i;rw[m8,Nat.testBit_or,Xt,Xr];by_cases h:i=1;subst h;rw[V];rfl;by_cases O:i<32;simp[h,O];rw[mo (lb U (by rw[show(2147483648:Nat)=2^31 from rfl];exact lw (by omega) (by omega)))];simp[O]
theorem Yl.NW(hm:BI m)(K:m.k=true)(O:ρ x=.int .i32 m.num)(U:ρ y=.int .i32 2):Yl P ⟨d,.binOp .andNot t x y u,ty,p,af,g⟩ ρ s (.int .i32 ({m with k:=false}:M4).num):=by
 have h:=Yl.andNot (P:=P) (s:=s) (d:=d) (t:=t) (u:=u) (ty:=ty) (p:=p) (af:=af) (g:=g) O U;have V:({m with k:=false}:M4).nat<2147483648:=(show BI {m with k:=false} from hm).lt;rw[M4.H3,mK,K1 hm.lt,show(~~~ BitVec.ofInt IntKind.i32.bits 2).toNat=4294967293 from rfl,Pal.NW hm K,DX V] at h;exact h
theorem GZ(hm:BI m)(K:ρ x=.int .i32 m.num)(O:ρ y=.int .u64 3):Yl P ⟨d,.binOp .shr t x y u,ty,p,af,g⟩ ρ s (B7 m.w):=by
 have h:=Yl.shr (P:=P) (s:=s) (d:=d) (t:=t) (u:=u) (ty:=ty) (p:=p) (af:=af) (g:=g) K O (by decide);have e:m.num.fdiv (2^(min (3:Int).toNat IntKind.i32.bits))=(m.w:Int):=by
  rw[show(2:Int)^(min (3:Int).toNat IntKind.i32.bits)=8 from rfl,M4.H3,l9 _ (by decide)];have:=M4.NP m;omega
 rw[e] at h;exact h
theorem T9(hm:Ck m)(K:ρ x=.int .i32 m.num)(O:ρ y=.int .i32 8):Yl P ⟨d,.binOp .add t x y u,ty,p,af,g⟩ ρ s (.int .i32 ({m with w:=m.w+1}:M4).num):=by
 have h:=Yl.add (P:=P) (s:=s) (d:=d) (t:=t) (u:=u) (ty:=ty) (p:=p) (af:=af) (g:=g) K O;have e:m.num+8=((({m with w:=m.w+1}:M4).nat:Nat):Int):=by simp only[M4.H3,M4.nat];omega
 rw[e,DX (show BI {m with w:=m.w+1} by unfold Ck at hm;unfold BI;simp only;omega).lt] at h;exact h
theorem Vi(hm:BI m)(hw:m.w≠0)(K:ρ x=.int .i32 m.num)(O:ρ y=.int .i32 8):Yl P ⟨d,.binOp .sub t x y u,ty,p,af,g⟩ ρ s (.int .i32 ({m with w:=m.w - 1}:M4).num):=by
 have h:=Yl.sub (P:=P) (s:=s) (d:=d) (t:=t) (u:=u) (ty:=ty) (p:=p) (af:=af) (g:=g) K O;have e:m.num - 8=((({m with w:=m.w - 1}:M4).nat:Nat):Int):=by simp only[M4.H3,M4.nat];omega
 rw[e,DX (show BI {m with w:=m.w - 1} by unfold BI at*;simp only;omega).lt] at h;exact h
theorem UP(hm:BI m)(K:m.l=false)(O:ρ x=.int .i32 m.num)(U:ρ y=.int .i32 1):Yl P ⟨d,.binOp .add t x y u,ty,p,af,g⟩ ρ s (.int .i32 ({m with l:=true}:M4).num):=by
 have h:=Yl.add (P:=P) (s:=s) (d:=d) (t:=t) (u:=u) (ty:=ty) (p:=p) (af:=af) (g:=g) O U;have e:m.num+1=((({m with l:=true}:M4).nat:Nat):Int):=by simp only[M4.H3,M4.nat,K,kP,kF];omega
 rw[e,DX (show BI {m with l:=true} from hm).lt] at h;exact h
end
theorem Xl(m:M4):((A9 m&&& 5:Nat):Int)=1↔m.l=true/\m.s=false:=by obtain⟨l,k,s,w⟩:=m;cases l<;>cases k<;>cases s<;>simp[A9]
theorem KB(m:M4):((A9 m&&& 5:Nat):Int)=0↔m.l=false/\m.s=false:=by obtain⟨l,k,s,w⟩:=m;cases l<;>cases k<;>cases s<;>simp[A9]
theorem Gg(m:M4):((A9 m&&& 4:Nat):Int)=0↔m.s=false:=by obtain⟨l,k,s,w⟩:=m;cases l<;>cases k<;>cases s<;>simp[A9]
theorem Oc(m:M4):((A9 m&&& 2:Nat):Int)=0↔m.k=false:=by obtain⟨l,k,s,w⟩:=m;cases l<;>cases k<;>cases s<;>simp[A9]
theorem Od(m:M4):((A9 m&&& 1:Nat):Int)=0↔m.l=false:=by obtain⟨l,k,s,w⟩:=m;cases l<;>cases k<;>cases s<;>simp[A9]
theorem ML(m:M4):((A9 m&&& 3:Nat):Int)=0↔m.l=false/\m.k=false:=by obtain⟨l,k,s,w⟩:=m;cases l<;>cases k<;>cases s<;>simp[A9]
theorem QN(m:M4):((A9 m&&& 7:Nat):Int)=0↔m.l=false/\m.k=false/\m.s=false:=by obtain⟨l,k,s,w⟩:=m;cases l<;>cases k<;>cases s<;>simp[A9]
end Pal
namespace Go.Proofs
abbrev Tryz.link:Go.Conc.Lib.WgLink:={add:=45,done:=47,wait:=52,relMerge:=58,disable:=59,enable:=60,inBubble:=61,associate:=62,fatal:=63,uOr:=64,uAdd:=65,raceRead:=66,uLoad:=67,uStore:=68,disassociate:=69,semrelease:=70,acquire:=76,isAssociated:=77,uCas:=78,raceWrite:=79,semacquire:=80,orU64:=85,addU64:=86,loadU64:=87,storeU64:=88,casU64:=93,tWgP:=151,tUP:=153,tAssoc:=154,tWg:=131,tAU:=129,tU64:=51,tUint:=111,tU32:=123,tPU32:=158,tPAU:=175,tPU64:=177,tNoCopy:=122,tANoCopy:=118,tAlign64:=119}
theorem Tryz.Ib:Go.Conc.Lib.WgLib Tryz.prog Tryz.link:=
 ⟨Tryz.func45,Tryz.func47,Tryz.func52,Tryz.func58,Tryz.func59,Tryz.func60,Tryz.func61,Tryz.func62,Tryz.func63,Tryz.func64,Tryz.func65,Tryz.func66,Tryz.func67,Tryz.func68,Tryz.func69,Tryz.func70,Tryz.func76,Tryz.func77,Tryz.func78,Tryz.func79,Tryz.func80,Tryz.func85,Tryz.func86,Tryz.func87,Tryz.func88,Tryz.func93,Tryz.underlying151,Tryz.runUnderlying151,Tryz.sizeOf151,Tryz.isAgg151,Tryz.zeroValue151,Tryz.underlying153,Tryz.runUnderlying153,Tryz.sizeOf153,Tryz.isAgg153,Tryz.zeroValue153,Tryz.underlying154,Tryz.runUnderlying154,Tryz.sizeOf154,Tryz.isAgg154,Tryz.zeroValue154,Tryz.underlying131,Tryz.runUnderlying131,Tryz.sizeOf131,Tryz.isAgg131,Tryz.zeroValue131,Tryz.underlying129,Tryz.runUnderlying129,Tryz.sizeOf129,Tryz.isAgg129,Tryz.zeroValue129,Tryz.underlying51,Tryz.runUnderlying51,Tryz.sizeOf51,Tryz.isAgg51,Tryz.zeroValue51,Tryz.underlying111,Tryz.runUnderlying111,Tryz.sizeOf111,Tryz.isAgg111,Tryz.zeroValue111,Tryz.underlying123,Tryz.runUnderlying123,Tryz.sizeOf123,Tryz.isAgg123,Tryz.zeroValue123,Tryz.underlying158,Tryz.runUnderlying158,Tryz.sizeOf158,Tryz.isAgg158,Tryz.zeroValue158,Tryz.underlying175,Tryz.runUnderlying175,Tryz.sizeOf175,Tryz.isAgg175,Tryz.zeroValue175,Tryz.underlying177,Tryz.runUnderlying177,Tryz.sizeOf177,Tryz.isAgg177,Tryz.zeroValue177,Tryz.underlying0,Tryz.runUnderlying0,Tryz.sizeOf0,Tryz.isAgg0,Tryz.zeroValue0,Tryz.underlying3,Tryz.runUnderlying3,Tryz.sizeOf3,Tryz.isAgg3,Tryz.zeroValue3,Tryz.underlying4,Tryz.runUnderlying4,Tryz.sizeOf4,Tryz.isAgg4,Tryz.zeroValue4,Tryz.underlying9,Tryz.runUnderlying9,Tryz.sizeOf9,Tryz.isAgg9,Tryz.zeroValue9,Tryz.underlying20,Tryz.runUnderlying20,Tryz.sizeOf20,Tryz.isAgg20,Tryz.zeroValue20,Tryz.underlying21,Tryz.runUnderlying21,Tryz.sizeOf21,Tryz.isAgg21,Tryz.zeroValue21,(by decide+kernel),(by decide+kernel)⟩
end Go.Proofs
namespace Pal
open Go Go.Conc Go.Conc.Lib Go.Proofs Go.ConcR.Gen
theorem QP:Bq Tryz.prog 59 (λ_=>do mark .disable;pure Extern.Race.none_):=Lr Tryz.Ib
theorem MT:Bq Tryz.prog 60 (λ_=>do mark .enable;pure Extern.Race.none_):=Hk Tryz.Ib
theorem QM:Bq Tryz.prog 76 (Extern.Race.marked .acquire):=Ng Tryz.Ib
theorem Xi:Bq Tryz.prog 58 (Extern.Race.marked .releaseMerge):=OP Tryz.Ib
theorem Mv:Bq Tryz.prog 89 (Extern.Atomic.casT (.int .i32)):=⟨⟨_,Tryz.func89,by decide+kernel,V,by kernel_rfl,by kernel_rfl⟩⟩
theorem FT:Bq Tryz.prog 91 (Extern.Atomic.update (Op.intArith .add) .i32 true):=⟨⟨_,Tryz.func91,by decide+kernel,V,by kernel_rfl,by kernel_rfl⟩⟩
theorem Wj:Bq Tryz.prog 106 Extern.Sync.canSpin:=⟨⟨_,Tryz.func106,by decide+kernel,V,by kernel_rfl,by kernel_rfl⟩⟩
theorem Kn:Bq Tryz.prog 107 (λ_=>pure Extern.Sync.none_):=⟨⟨_,Tryz.func107,by decide+kernel,V,by kernel_rfl,by kernel_rfl⟩⟩
theorem N6:Bq Tryz.prog 109 Extern.OsHooks.nano:=⟨⟨_,Tryz.func109,by decide+kernel,V,by kernel_rfl,by kernel_rfl⟩⟩
theorem Qt:Bq Tryz.prog 110 Extern.Sync.semacquire:=⟨⟨_,Tryz.func110,by decide+kernel,V,by kernel_rfl,by kernel_rfl⟩⟩
theorem QG:Bq Tryz.prog 112 Extern.Sync.semrelease:=⟨⟨_,Tryz.func112,by decide+kernel,V,by kernel_rfl,by kernel_rfl⟩⟩
def mN(sv aw:Bool)(m:M4):M4:=⟨m.l || !m.s,!aw&&m.k,m.s || (sv&&m.l),if m.l=true∨m.s=true then m.w+1 else m.w⟩
variable{F:Fam}{Q:GP}{b:Frame}{i n:Nat}{L:Env}{ds:Ld_}{k:Li_}{cs:Lf_}{s:St}{ops:Ao_}{rest:List Nat}{d:Option Tmp}{x:Operand}{ty:TypeId}{af:Ae_}{g:On_}
theorem JL.uA{J:Judge Tryz.prog}{p:String}(K:IP b n L ops i=some ⟨d,.fieldAddr 125 x 0,ty,p,af,g⟩)(O:ev L x=some (.pointer (some F.uA)))(h:JL J Q b n (Az L d (.pointer (some F.uA))) ds (.inRegion ops rest::k) cs s):JL J Q b n L ds (.inRegion ops (i::rest)::k) cs s:=AJ K (λρ h=>Aq (a:=F.uA) 0 0 Tryz.underlying125 (AB Tryz.type21) V V V (h _ _ O)) h
variable{P:Program}
theorem VS{J:Judge P}{c:Code}(h:∀K,K=k->JL J Q b n L ds (.code c::K) cs s):JL J Q b n L ds (.code c::k) cs s:=h _ V
theorem QS{J:Judge P}(h:∀K,K=k->JL J Q b n L ds K cs s):JL J Q b n L ds k cs s:=h _ V
theorem GG:(Tryz.prog.funcs[90]?).any (·.norace)=true:=by rw[Tryz.func90];rfl
theorem W4:(Tryz.prog.funcs[75]?).any (·.norace)=true:=by rw[Tryz.func75];rfl
theorem W6:(Tryz.prog.funcs[92]?).any (·.norace)=true:=by rw[Tryz.func92];rfl
theorem Oe:(Tryz.prog.funcs[109]?).any (·.norace)=true:=by rw[Tryz.func109];rfl
theorem NQ:(Tryz.prog.info? 125).map (λi=>decide (i.size=0))=some false:=(kR (Option.map (λi=>decide (i.size=0))) Tryz.type125).trans V
abbrev FA:=Bool×Bool×Nat×M4×Int
def QK(a:FA):Prop:=(a.2.1=true->a.2.2.2.1.k=true)/\a.2.2.1<=4/\Ck a.2.2.2.1
def Om(a:FA):LP:=.BC a.1 a.2.1 a.2.2.1 a.2.2.2.1
variable{aw sv:Bool}{it q:Nat}{old:M4}
theorem UK(h:old.l=false/\old.s=false):(mN sv aw old,q,#[Fam.Br F.uA,Fam.Cx F.uA],some LP.len)∈F.Bn (.BC sv aw it old) old q:=by
 obtain⟨l,k,s,w⟩:=old;obtain⟨h1,K⟩:=h;simp only at h1 K;subst h1 K;simp[Fam.Bn,Fam.DO,mN]
theorem PC(h:¬(old.l=false/\old.s=false))(x:LP)(K:x=.GF sv∨x=.BL sv):(mN sv aw old,q,#[Fam.Br F.uA,Fam.Cx F.uA],some x)∈F.Bn (.BC sv aw it old) old q:=by
 obtain⟨l,k,s,w⟩:=old;show _∈F.DO _ _ _ _ _ _;unfold Fam.DO;rw[kM];right;rw[d5 rfl,d7 h];cases l<;>cases s<;>simp[mN] at h ⊢<;>rcases K with rfl | rfl<;>simp
variable{m:M4}
theorem S5(h:m≠old):(m,q,#[Fam.Br F.uA],some (LP.CO sv aw it))∈F.Bn (.BC sv aw it old) m q:=by
 show _∈F.DO _ _ _ _ _ _;unfold Fam.DO;rw[kM];right;rw[d7 h];exact d6.2 V
theorem VF(h1:old.l=true/\old.s=false)(K:it<4)(O:old.k=false)(U:old.w≠0):(({old with k:=true}:M4),q,#[Fam.Br F.uA,Fam.Cx F.uA],some (LP.CO sv true (it+1)))∈F.Bn (.BC sv false it old) old q:=by
 show _∈F.DO _ _ _ _ _ _;unfold Fam.DO;rw[kM];left;rw[d5 ⟨h1.1,h1.2,K⟩,d5 ⟨rfl,O,U⟩,d5 rfl];exact d6.2 V
theorem Vk(h1:old.l=true/\old.s=false)(K:it<4)(O:old.k=false)(U:old.w≠0)(hm:m≠old):(m,q,#[Fam.Br F.uA],some (LP.CO sv false (it+1)))∈F.Bn (.BC sv false it old) m q:=by
 show _∈F.DO _ _ _ _ _ _;unfold Fam.DO;rw[kM];left;rw[d5 ⟨h1.1,h1.2,K⟩,d5 ⟨rfl,O,U⟩,d7 hm];exact d6.2 V
theorem NT(h1:old.l=true/\old.s=false)(K:it<4)(O:¬(aw=false/\old.k=false/\old.w≠0)):(m,q,#[],some (LP.BC sv aw (it+1) m))∈F.Bn (.BC sv aw it old) m q:=by
 show _∈F.DO _ _ _ _ _ _;unfold Fam.DO;rw[kM];left;rw[d5 ⟨h1.1,h1.2,K⟩,d7 O];exact d6.2 V
theorem Fx(m:M4)(h:m.s=true):m={m with l:=m.l || !m.s}:=by
 obtain⟨l,k,s,w⟩:=m;simp only at h;subst h;simp
variable{ats:Array TypeId}{pp:String}{kk:Nat}
set_option maxHeartbeats 4000000 in
theorem SS(Z:s.q=false)(a3:ops[i]?=some ⟨d,.call ⟨.value (.func 90),#[x],ats⟩,ty,pp,af,g⟩)(hw:AO L ops ⟨d,.call ⟨.value (.func 90),#[x],ats⟩,ty,pp,af,g⟩=some true)(a4:((b.kind != .early)&&A5 n d)=true)(a5:ev L x=some (.pointer (some F.uA)))
  (h:JL (AF Tryz.prog false) (Stop Tryz.prog F (.lk kk .DF)) b n (Az L d (.tuple #[])) ds (.inRegion ops rest::k) cs s):
  JL (AF Tryz.prog false) (Stop Tryz.prog F (.lk kk (.CO false false 0))) b n L ds (.inRegion ops (i::rest)::k) cs s:=by
 refine EZ (vs:=[.pointer (some F.uA)]) a3 hw a4 Tryz.func90 (by decide+kernel) rfl (by simp[evs,a5]) (d4 rfl) λaN back=>C 20 rfl (JL.uA rfl rfl ?_);refine FK (kk:=kk) (p:=.CO false false 0) Cj.stop Z rfl rfl rfl rfl rfl FE GG rfl λaO bj aI=>⟨some (.BC false false 0 aO),d6.2 rfl,?_⟩;refine C 3 rfl (VS λa6 a7=>?_);have al:∀X:Ph->GP,Cj Tryz.prog F X->(∀p g s,Stop Tryz.prog F p g s->X p g s)->∀L',look L' 0=some (.pointer (some F.uA))->JL (AF Tryz.prog false) (X (.lk kk .len)) (base 90) Tryz.f90.ntmps L' [] a6 (aN::cs) s:=by
  intro X O ai L' a8;rw[a7];refine Ap (L':=[(0,.pointer (some F.uA))]) ⟨a8,trivial⟩ (C 3 rfl ?_);refine Ja (kk:=kk) (p:=.len) O Z rfl (λ_ _=>rfl) rfl rfl rfl rfl (by simp) MT (C 3 rfl ?_);refine Nu (kk:=kk) (p:=.IN) O Z rfl (λ_ _=>rfl) rfl rfl rfl rfl Tryz.underlying181 Tryz.underlying153 NQ rfl (NU (kk:=kk) (p:=.Hb) (ad:=F.uA) O Z rfl (λ_ _=>rfl) rfl rfl rfl rfl (by simp) QM rfl rfl ?_);refine JL.done (JL.fin rfl rfl (Ay.none Tryz.func90 rfl) (back _ _ _ _ ?_));exact LU (λg s=>ai _ g s) h
 refine JL.block (HV ?_);refine FR [(0,.pointer (some F.uA)),(2,iV 0),(3,.bool false),(4,.bool false),(5,iV ((0:Nat):Int)),(6,.int .i32 (aO:M4).num)] rfl (QS λaP aq=>?_);refine Qs (P:=Tryz.prog) (F:=F) (s:=s) (kk:=kk) (ph:=Om) (ok:=QK) (head:=λ(X:Ph->GP) (a:FA)=>JL (AF Tryz.prog false) (X (.lk kk (Om a))) (base 90) Tryz.f90.ntmps ([(0,.pointer (some F.uA)),(2,iV a.2.2.2.2),(3,.bool a.1),(4,.bool a.2.1),(5,iV (a.2.2.1:Int)),(6,.int .i32 (a.2.2.2.1:M4).num)]) [] aP (aN::cs) s) ?_ (false,false,0,aO,0) ⟨(λe=>by cases e),lz _,aI.2.2.1⟩;intro Y aJ bl hC;have key:∀N (a:FA),4 - a.2.2.1<N->QK a->(λ(X:Ph->GP) (a:FA)=>JL (AF Tryz.prog false) (X (.lk kk (Om a))) (base 90) Tryz.f90.ntmps ([(0,.pointer (some F.uA)),(2,iV a.2.2.2.2),(3,.bool a.1),(4,.bool a.2.1),(5,iV (a.2.2.1:Int)),(6,.int .i32 (a.2.2.2.1:M4).num)]) [] aP (aN::cs) s) Y a:=by
  intro N
  induction N with
  | zero=>intro a aS;omega
  | succ N aK=>
   rintro⟨sv,aw,it,old,wt⟩ a9 aI;simp only at a9;have ba:aw=true->old.k=true:=aI.1;have aQ:Ck old:=aI.2.2;have am:BI old:=aQ.BI;show JL (AF Tryz.prog false) (Y (.lk kk (.BC sv aw it old))) (base 90) Tryz.f90.ntmps [(0,.pointer (some F.uA)),(2,iV wt),(3,.bool sv),(4,.bool aw),(5,iV (it:Int)),(6,.int .i32 (old:M4).num)] [] aP (aN::cs) s;rw[aq];refine C 2 rfl (Bj (λL s'=>s=s'/\L=[(0,.pointer (some F.uA)),(2,iV wt),(3,.bool sv),(4,.bool aw),(5,iV (it:Int)),(6,.int .i32 (old:M4).num)]) ?_ ?_)
   rotate_left
   .intro aj;refine C 3 rfl (AJ (v:=B7 (A9 old&&& 5)) rfl (λρ h=>CW (c:=5) am (h _ _ rfl) (h _ _ rfl) (by decide)) ?_);refine C 2 rfl (DW (q:=((A9 old&&& 5:Nat):Int)=1) (i:=17) rfl (λaT=>?_) (λaT=>?_))
    .refine AJ (v:=iV (it:Int)) rfl (λρ h=>Yl.move (h _ _ rfl)) (JL.canSpin (it:=(it:Int)) Z rfl rfl rfl rfl Wj rfl (λFv=>?_) ?_)
     .refine AJ (v:=.bool true) rfl (λρ h=>Ci (h _ _ rfl) (h _ _ rfl)) ?_;have an:=(Xl old).1 aT;refine C 5 rfl ?_;have aL:it<4:=by omega
      refine C 1 rfl (AJ (v:=.bool (!aw)) rfl (λρ h=>Yl.not (h _ _ rfl)) ?_);refine C 1 rfl (EY (c:= !aw) (i:=23) rfl (λc1=>?_) (λc1=>?_))
      .refine AJ (v:=.int .i32 (old:M4).num) rfl (λρ h=>Yl.move (h _ _ rfl)) (AJ (v:=B7 (A9 old&&& 2)) rfl (λρ h=>CW (c:=2) am (h _ _ rfl) (h _ _ rfl) (by decide)) ?_);refine C 3 rfl (DW (q:=((A9 old&&& 2:Nat):Int)=0) (i:=28) rfl (λc2=>?_) (λc2=>?_))
       .refine AJ (v:=.int .i32 (old:M4).num) rfl (λρ h=>Yl.move (h _ _ rfl)) (AJ (v:=B7 old.w) rfl (λρ h=>GZ am (h _ _ rfl) (h _ _ rfl)) ?_);refine C 3 rfl (DW (q:=(old.w:Int)≠0) (i:=33) rfl (λc3=>?_) (λc3=>?_))
        .have bb:aw=false:=by simpa using c1
         subst bb;have aU:=(Oc old).1 c2;have aV:old.w≠0:=by omega
         refine C 2 rfl (JL.uA rfl rfl ?_);refine C 2 rfl (AJ (v:=.int .i32 ({old with k:=true}:M4).num) rfl (λρ h=>Me (c:=2) am (by decide) (Oz old) rfl (h _ _ rfl) (h _ _ rfl)) ?_);refine PK (kk:=kk) (p:=.BC sv false it old) (old:=old) (nw:={old with k:=true}) aJ Z rfl rfl rfl rfl rfl Mv rfl rfl rfl (λq ao=>⟨some (.CO sv true (it+1)),VF an aL aU aV,?_⟩) (λm q hm ao=>⟨some (.CO sv false (it+1)),Vk an aL aU aV hm,?_⟩);refine AJ (v:=.bool true) rfl (λρ h=>Ci (h _ _ rfl) (h _ _ rfl)) (C 7 rfl ?_);refine JL.ext (v:=.tuple #[]) rfl rfl rfl Kn rfl rfl (C 4 rfl ?_);refine AJ (v:=iV ((it+1:Nat):Int)) rfl (λρ h=>BH (h _ _ rfl) (h _ _ rfl) (by unfold AR;rw[d5 (by omega)];congr 1)) (C 6 rfl ?_);refine JL.uA rfl rfl (FK (kk:=kk) (p:=.CO sv true (it+1)) aJ Z rfl rfl rfl rfl rfl FE GG rfl λar aW aD=>⟨some (.BC sv true (it+1) ar),d6.2 rfl,?_⟩);refine C 3 rfl (JL.again ?_);rw[← aq];exact FR [(0,.pointer (some F.uA)),(2,iV wt),(3,.bool sv),(4,.bool true),(5,iV ((it+1:Nat):Int)),(6,.int .i32 (ar:M4).num)] rfl (aK (sv,true,it+1,ar,wt) (by show 4 - (it+1)<N;omega) ⟨aD.2.2.2,(by show it+1<=4;omega),aD.2.2.1⟩);refine AJ (v:=.bool false) rfl (λρ h=>Ci (h _ _ rfl) (h _ _ rfl)) (C 5 rfl ?_);refine JL.ext (v:=.tuple #[]) rfl rfl rfl Kn rfl rfl (C 4 rfl ?_);refine AJ (v:=iV ((it+1:Nat):Int)) rfl (λρ h=>BH (h _ _ rfl) (h _ _ rfl) (by unfold AR;rw[d5 (by omega)];congr 1)) (C 6 rfl ?_);refine JL.uA rfl rfl (FK (kk:=kk) (p:=.CO sv false (it+1)) aJ Z rfl rfl rfl rfl rfl FE GG rfl λar aW aD=>⟨some (.BC sv false (it+1) ar),d6.2 rfl,?_⟩);refine C 3 rfl (JL.again ?_);rw[← aq];exact FR [(0,.pointer (some F.uA)),(2,iV wt),(3,.bool sv),(4,.bool false),(5,iV ((it+1:Nat):Int)),(6,.int .i32 (ar:M4).num)] rfl (aK (sv,false,it+1,ar,wt) (by show 4 - (it+1)<N;omega) ⟨aD.2.2.2,(by show it+1<=4;omega),aD.2.2.1⟩)
        .refine AP rfl rfl rfl (C 12 rfl ?_);refine JL.ext (v:=.tuple #[]) rfl rfl rfl Kn rfl rfl (C 4 rfl ?_);refine AJ (v:=iV ((it+1:Nat):Int)) rfl (λρ h=>BH (h _ _ rfl) (h _ _ rfl) (by unfold AR;rw[d5 (by omega)];congr 1)) (C 6 rfl ?_);refine JL.uA rfl rfl (FK (kk:=kk) (p:=.BC sv aw it old) aJ Z rfl rfl rfl rfl rfl FE GG rfl λm q ao=>⟨some (.BC sv aw (it+1) m),NT an aL (λe=>c3 (by omega)),?_⟩);refine C 3 rfl (JL.again ?_);rw[← aq];exact FR [(0,.pointer (some F.uA)),(2,iV wt),(3,.bool sv),(4,.bool aw),(5,iV ((it+1:Nat):Int)),(6,.int .i32 (m:M4).num)] rfl (aK (sv,aw,it+1,m,wt) (by show 4 - (it+1)<N;omega) ⟨ao.2.2.2.2.2,(by show it+1<=4;omega),ao.2.2.2.2.1⟩)
       .refine AP rfl rfl rfl (C 17 rfl ?_);refine JL.ext (v:=.tuple #[]) rfl rfl rfl Kn rfl rfl (C 4 rfl ?_);refine AJ (v:=iV ((it+1:Nat):Int)) rfl (λρ h=>BH (h _ _ rfl) (h _ _ rfl) (by unfold AR;rw[d5 (by omega)];congr 1)) (C 6 rfl ?_);refine JL.uA rfl rfl (FK (kk:=kk) (p:=.BC sv aw it old) aJ Z rfl rfl rfl rfl rfl FE GG rfl λm q ao=>⟨some (.BC sv aw (it+1) m),NT an aL (λe=>c2 ((Oc old).2 e.2.1)),?_⟩);refine C 3 rfl (JL.again ?_);rw[← aq];exact FR [(0,.pointer (some F.uA)),(2,iV wt),(3,.bool sv),(4,.bool aw),(5,iV ((it+1:Nat):Int)),(6,.int .i32 (m:M4).num)] rfl (aK (sv,aw,it+1,m,wt) (by show 4 - (it+1)<N;omega) ⟨ao.2.2.2.2.2,(by show it+1<=4;omega),ao.2.2.2.2.1⟩)
      .refine AP rfl rfl rfl (C 22 rfl ?_);refine JL.ext (v:=.tuple #[]) rfl rfl rfl Kn rfl rfl (C 4 rfl ?_);refine AJ (v:=iV ((it+1:Nat):Int)) rfl (λρ h=>BH (h _ _ rfl) (h _ _ rfl) (by unfold AR;rw[d5 (by omega)];congr 1)) (C 6 rfl ?_);refine JL.uA rfl rfl (FK (kk:=kk) (p:=.BC sv aw it old) aJ Z rfl rfl rfl rfl rfl FE GG rfl λm q ao=>⟨some (.BC sv aw (it+1) m),NT an aL (λe=>by rw[e.1] at c1;cases c1),?_⟩);refine C 3 rfl (JL.again ?_);rw[← aq];exact FR [(0,.pointer (some F.uA)),(2,iV wt),(3,.bool sv),(4,.bool aw),(5,iV ((it+1:Nat):Int)),(6,.int .i32 (m:M4).num)] rfl (aK (sv,aw,it+1,m,wt) (by show 4 - (it+1)<N;omega) ⟨ao.2.2.2.2.2,(by show it+1<=4;omega),ao.2.2.2.2.1⟩)
     .refine AJ (v:=.bool false) rfl (λρ h=>Ci (h _ _ rfl) (h _ _ rfl)) (C 3 rfl ?_);exact Oi (aj _ _ ⟨rfl,rfl⟩) rfl
    .refine AP rfl rfl rfl (C 5 rfl ?_);exact Oi (aj _ _ ⟨rfl,rfl⟩) rfl
   rintro _ _ ⟨rfl,rfl⟩;refine C 6 rfl (Bj (λL s'=>s=s'/\L=[(0,.pointer (some F.uA)),(2,iV wt),(3,.bool sv),(4,.bool aw),(5,iV (it:Int)),(6,.int .i32 (old:M4).num),(7,.int .i32 ({old with l:=old.l || !old.s}:M4).num)]) ?_ ?_)
   rotate_left
   .intro aj;refine C 3 rfl (AJ (v:=B7 (A9 old&&& 4)) rfl (λρ h=>CW (c:=4) am (h _ _ rfl) (h _ _ rfl) (by decide)) ?_);refine C 2 rfl (AU (p:=((A9 old&&& 4:Nat):Int)=0) rfl (λc=>?_) (λc=>?_));refine JL.region (C 1 rfl ?_);refine AJ (v:=.int .i32 ({old with l:=true}:M4).num) rfl (λρ h=>Me (c:=1) am (by decide) (Xz old) rfl (h _ _ rfl) (h _ _ rfl)) (C 2 rfl ?_);refine Ap ?_ (aj _ _ ⟨rfl,rfl⟩);exact⟨rfl,rfl,rfl,rfl,rfl,rfl,kR (λm:M4=>some (Value.int .i32 m.num)) (by rw[(Gg old).1 c];simp),trivial⟩;refine JL.skip (Ap ?_ (aj _ _ ⟨rfl,rfl⟩));exact⟨rfl,rfl,rfl,rfl,rfl,rfl,kR (λm:M4=>some (Value.int .i32 m.num)) ((mG old.s).elim (Fx old) (λhh=>absurd ((Gg old).2 hh) c)),trivial⟩
   rintro _ _ ⟨rfl,rfl⟩;have bm:BI {old with l:=old.l || !old.s}:=am;refine JL.seq (Bj (λL s'=>s=s'/\L=[(0,.pointer (some F.uA)),(2,iV wt),(3,.bool sv),(4,.bool aw),(5,iV (it:Int)),(6,.int .i32 (old:M4).num),(7,.int .i32 ({old with l:=old.l || !old.s,w:=if old.l=true∨old.s=true then old.w+1 else old.w}:M4).num)]) ?_ ?_)
   rotate_left
   .intro aj;refine C 3 rfl (AJ (v:=B7 (A9 old&&& 5)) rfl (λρ h=>CW (c:=5) am (h _ _ rfl) (h _ _ rfl) (by decide)) ?_);refine C 2 rfl (AU (p:=((A9 old&&& 5:Nat):Int)≠0) rfl (λc=>?_) (λc=>?_));refine JL.region (C 1 rfl ?_);refine AJ (v:=.int .i32 ({old with l:=old.l || !old.s,w:=old.w+1}:M4).num) rfl (λρ h=>T9 (m:={old with l:=old.l || !old.s}) aQ (h _ _ rfl) (h _ _ rfl)) (C 2 rfl ?_);refine Ap ?_ (aj _ _ ⟨rfl,rfl⟩);exact⟨rfl,rfl,rfl,rfl,rfl,rfl,kR (λm:M4=>some (Value.int .i32 m.num)) (by rw[d5 (by have:=λe=>c ((KB old).2 e);cases h1:old.l<;>cases bn:old.s<;>simp_all)]),trivial⟩;refine JL.skip (Ap ?_ (aj _ _ ⟨rfl,rfl⟩));exact⟨rfl,rfl,rfl,rfl,rfl,rfl,kR (λm:M4=>some (Value.int .i32 m.num)) (by rw[d7 (by have:=(KB old).1 (mp.1 c);rw[this.1,this.2];simp)]),trivial⟩
   rintro _ _ ⟨rfl,rfl⟩;have aX:BI ({old with l:=old.l || !old.s,w:=if old.l=true∨old.s=true then old.w+1 else old.w}:M4):=by unfold Ck at aQ;unfold BI;simp only;split<;>omega
   refine JL.seq (Bj (λL s'=>s=s'/\L=[(0,.pointer (some F.uA)),(2,iV wt),(3,.bool sv),(4,.bool aw),(5,iV (it:Int)),(6,.int .i32 (old:M4).num),(7,.int .i32 ({old with l:=old.l || !old.s,s:=old.s || (sv&&old.l),w:=if old.l=true∨old.s=true then old.w+1 else old.w}:M4).num)]) ?_ ?_)
   rotate_left
   .intro aj;refine C 4 rfl (EY (c:=sv) (i:=61) rfl (λc1=>?_) (λc1=>?_))
    .refine AJ (v:=.int .i32 (old:M4).num) rfl (λρ h=>Yl.move (h _ _ rfl)) (AJ (v:=B7 (A9 old&&& 1)) rfl (λρ h=>CW (c:=1) am (h _ _ rfl) (h _ _ rfl) (by decide)) ?_);refine C 3 rfl (AU (p:=((A9 old&&& 1:Nat):Int)≠0) rfl (λc=>?_) (λc=>?_))
     .refine JL.region (C 1 rfl ?_);refine AJ (v:=.int .i32 ({old with s:=true,l:=old.l || !old.s,w:=if old.l=true∨old.s=true then old.w+1 else old.w}:M4).num) rfl (λρ h=>Me (c:=4) (m:={old with l:=old.l || !old.s,w:=if old.l=true∨old.s=true then old.w+1 else old.w}) aX (by decide) (Xu _) rfl (h _ _ rfl) (h _ _ rfl)) ?_
      refine C 2 rfl (Ap ?_ (aj _ _ ⟨rfl,rfl⟩));exact⟨rfl,rfl,rfl,rfl,rfl,rfl,kR (λm:M4=>some (Value.int .i32 m.num)) (by rcases mG old.l with hh | hh<;>first | exact absurd ((Od old).2 hh) c | (rw[c1,hh];simp)),trivial⟩
     .refine JL.skip (Ap ?_ (aj _ _ ⟨rfl,rfl⟩));exact⟨rfl,rfl,rfl,rfl,rfl,rfl,kR (λm:M4=>some (Value.int .i32 m.num)) (by have:=(Od old).1 (mp.1 c);rw[this];simp),trivial⟩
    .refine AP rfl rfl rfl (C 6 rfl ?_);refine Ap ?_ (aj _ _ ⟨rfl,rfl⟩);exact⟨rfl,rfl,rfl,rfl,rfl,rfl,kR (λm:M4=>some (Value.int .i32 m.num)) (by rw[c1];simp),trivial⟩
   rintro _ _ ⟨rfl,rfl⟩;have aY:BI ({old with l:=old.l || !old.s,s:=old.s || (sv&&old.l),w:=if old.l=true∨old.s=true then old.w+1 else old.w}:M4):=aX
   refine JL.seq (Bj (λL s'=>s=s'/\L=[(0,.pointer (some F.uA)),(2,iV wt),(3,.bool sv),(4,.bool aw),(5,iV (it:Int)),(6,.int .i32 (old:M4).num),(7,.int .i32 (mN sv aw old:M4).num)]) ?_ ?_)
   rotate_left
   .intro aj;refine C 4 rfl (CK (t:=aw) rfl (λc=>?_) (λc=>?_))
    .have aZ:old.k=true:=ba c;refine C 4 rfl ?_;refine AJ (v:=B7 (A9 ({old with l:=old.l || !old.s,s:=old.s || (sv&&old.l),w:=if old.l=true∨old.s=true then old.w+1 else old.w}:M4)&&& 2)) rfl (λρ h=>CW (c:=2) (m:={old with l:=old.l || !old.s,s:=old.s || (sv&&old.l),w:=if old.l=true∨old.s=true then old.w+1 else old.w}) aY (h _ _ rfl) (h _ _ rfl) (by decide)) ?_
     refine AJ (v:=.bool false) rfl (λρ h=>Yl.to (Yl.eql (h _ _ rfl) (h _ _ rfl)) (by rw[kZ (λe=>by have q:=(Oc _).1 e;simp only at q;rw[aZ] at q;cases q)])) (C 5 rfl ?_);refine AJ (v:=.int .i32 ({old with k:=false,l:=old.l || !old.s,s:=old.s || (sv&&old.l),w:=if old.l=true∨old.s=true then old.w+1 else old.w}:M4).num) rfl (λρ h=>Yl.NW (m:={old with l:=old.l || !old.s,s:=old.s || (sv&&old.l),w:=if old.l=true∨old.s=true then old.w+1 else old.w}) aY aZ (h _ _ rfl) (h _ _ rfl)) ?_
     refine C 2 rfl (Ap ?_ (aj _ _ ⟨rfl,rfl⟩));exact⟨rfl,rfl,rfl,rfl,rfl,rfl,kR (λm:M4=>some (Value.int .i32 m.num)) (by simp[mN,c]),trivial⟩
    .refine JL.skip (Ap ?_ (aj _ _ ⟨rfl,rfl⟩));exact⟨rfl,rfl,rfl,rfl,rfl,rfl,kR (λm:M4=>some (Value.int .i32 m.num)) (by simp[mN,c]),trivial⟩
   rintro _ _ ⟨rfl,rfl⟩;refine C 4 rfl (JL.uA rfl rfl ?_);refine C 2 rfl (λT be=>(AF Tryz.prog false).stop (hC (sv,aw,it,old,wt) _ aI λX bo bf O ai aM=>?_));refine NG (kk:=kk) (p:=.BC sv aw it old) (old:=old) (nw:=mN sv aw old) bf Z rfl rfl rfl rfl rfl Mv rfl rfl rfl (λq ao=>?_) (λm q hm ao=>⟨some (.CO sv aw it),S5 hm,?_⟩) T be
   .by_cases an:old.l=false/\old.s=false;refine⟨some .len,UK an,?_⟩;refine C 6 rfl (AJ (v:=B7 (A9 old&&& 5)) rfl (λρ h=>CW (c:=5) am (h _ _ rfl) (h _ _ rfl) (by decide)) ?_);refine AJ (v:=.bool true) rfl (λρ h=>Yl.to (Yl.eql (h _ _ rfl) (h _ _ rfl)) (by rw[k8 ((KB old).2 an)])) (C 3 rfl ?_);exact al X O ai _ rfl
    .by_cases a2:wt=0
     .refine⟨some ((.GF sv)),PC an _ (.inl rfl),?_⟩;refine C 6 rfl (AJ (v:=B7 (A9 old&&& 5)) rfl (λρ h=>CW (c:=5) am (h _ _ rfl) (h _ _ rfl) (by decide)) ?_);refine AJ (v:=.bool false) rfl (λρ h=>Yl.to (Yl.eql (h _ _ rfl) (h _ _ rfl)) (by rw[kZ (λe=>an ((KB old).1 e))])) ?_;refine C 13 rfl (AJ (v:=.bool true) rfl (λρ h=>Yl.to (Yl.eql (h _ _ rfl) (h _ _ rfl)) (by rw[k8 a2])) ?_);refine C 3 rfl (Ns (kk:=kk) (p:=.GF sv) O Z rfl rfl rfl rfl rfl N6 Oe λm ap v ab=>⟨some (.BL sv),d6.2 rfl,?_⟩);refine C 6 rfl (AJ (v:=.pointer (some F.qA)) rfl (λρ h=>Aq (a:=F.uA) 0 1 Tryz.underlying125 Lm rfl rfl rfl (h _ _ rfl)) ?_);refine C 1 rfl (Pj (kk:=kk) (sv:=sv) O Z rfl rfl rfl rfl Qt rfl rfl ?_);refine JL.done ?_;cases sv
      .rw [d7 (by decide)];refine C 4 rfl (Ns (kk:=kk) (p:=.Ei) O Z rfl rfl rfl rfl rfl N6 Oe λbg bh v2 bi=>⟨some (.CS (decide (IntKind.i64.wrap (v2 - v)>1000000))),by (cases decide (IntKind.i64.wrap (v2 - v)>1000000)<;>simp[Fam.Bn]),?_⟩);refine C 1 rfl (AJ (v:=.int .i64 (IntKind.i64.wrap (v2 - v))) rfl (λρ h=>Yl.sub (h _ _ rfl) (h _ _ rfl)) ?_);refine C 4 rfl ?_;generalize decide (IntKind.i64.wrap (v2 - v)>1000000)=ah;refine C 4 rfl (JL.uA rfl rfl ?_);refine FK (kk:=kk) (p:=.CS ah) O Z rfl rfl rfl rfl rfl FE GG rfl ?_;intro m aR ak;have au:Ck m:=ak.2.2;have ac:BI m:=au.BI;by_cases aa:m.s=true
       .refine⟨some (.CN (!ah || m.w==1)),by simp[Fam.Bn,aa],?_⟩;refine C 2 rfl ?_;let⟨aE,aF,aG⟩:=ak.1 aa;refine C 4 rfl (AJ (v:=B7 (A9 m&&& 4)) rfl (λρ h=>CW (c:=4) ac (h _ _ rfl) (h _ _ rfl) (by decide)) ?_);refine AJ (v:=.bool true) rfl (λρ h=>Yl.to (Cr (h _ _ rfl) (h _ _ rfl)) (by have aH:(((A9 m&&& 4:Nat):Int)≠0):=(λe=>by rw[(Gg m).1 e] at aa;cases aa);rw[k8 aH])) ?_;refine C 6 rfl (AJ (v:=B7 (A9 m&&& 3)) rfl (λρ h=>CW (c:=3) ac (h _ _ rfl) (h _ _ rfl) (by decide)) ?_);refine AJ (v:=.bool false) rfl (λρ h=>Yl.to (Cr (h _ _ rfl) (h _ _ rfl)) (by rw[(ML m).2 ⟨aE,aF⟩];rfl)) (C 2 rfl ?_);refine AJ (v:=B7 m.w) rfl (λρ h=>GZ ac (h _ _ rfl) (h _ _ rfl)) (AJ (v:=.bool false) rfl (λρ h=>Yl.to (Yl.eql (h _ _ rfl) (h _ _ rfl)) (by rw[kZ (λe=>aG (by omega))])) ?_);refine C 12 rfl (AJ (v:=.bool (!ah)) rfl (λρ h=>Yl.not (h _ _ rfl)) ?_);refine C 1 rfl (EY (c:= !ah) (i:=119) rfl (λd1=>?_) (λd1=>?_))
        .refine AP rfl rfl rfl (C 5 rfl ?_);have hex:(!ah || m.w==1)=true:=by rw[d1];simp
         rw[hex];refine C 2 rfl (AJ (v:=.int .i32 (-11)) rfl (λρ h=>Yl.to (Yl.sub (h _ _ rfl) (h _ _ rfl)) rfl) ?_);refine C 6 rfl (JL.uA rfl rfl ?_);refine C 1 rfl (FH (kk:=kk) (p:=.CN true) (dl:= -11) O Z rfl rfl rfl rfl rfl FT rfl rfl λK ap ab=>⟨⟨true,K.k,false,K.w - 1⟩,some .len,?_,d6.2 rfl,?_⟩)
         .obtain⟨av,ay,az,w3⟩:=K;obtain⟨U,g2,V,ae,aA,ag⟩:=ab;simp only at U g2 V ae;subst U g2 V;have aB:w3<134217728:=ag;have e:(⟨false,false,true,w3⟩:M4).num+(-11)=((8*(w3 - 1)+1:Nat):Int):=by simp only[M4.num,kP,kF];omega
          rw[e,DX (by omega)];simp only[M4.num,kP,kF];omega
         exact C 2 rfl (al X O ai _ rfl)
        .refine AJ (v:=.int .i32 (m:M4).num) rfl (λρ h=>Yl.move (h _ _ rfl)) (AJ (v:=B7 m.w) rfl (λρ h=>GZ ac (h _ _ rfl) (h _ _ rfl)) ?_);refine C 3 rfl (AU (p:=(m.w:Int)=1) rfl (λd2=>?_) (λd2=>?_))
         .have hex:(!ah || m.w==1)=true:=by rw[d1];simp;omega
          rw[hex];refine C 2 rfl (AJ (v:=.int .i32 (-11)) rfl (λρ h=>Yl.to (Yl.sub (h _ _ rfl) (h _ _ rfl)) rfl) ?_);refine C 6 rfl (JL.uA rfl rfl ?_);refine C 1 rfl (FH (kk:=kk) (p:=.CN true) (dl:= -11) O Z rfl rfl rfl rfl rfl FT rfl rfl λK ap ab=>⟨⟨true,K.k,false,K.w - 1⟩,some .len,?_,d6.2 rfl,?_⟩)
          .obtain⟨av,ay,az,w3⟩:=K;obtain⟨U,g2,V,ae,aA,ag⟩:=ab;simp only at U g2 V ae;subst U g2 V;have aB:w3<134217728:=ag;have e:(⟨false,false,true,w3⟩:M4).num+(-11)=((8*(w3 - 1)+1:Nat):Int):=by simp only[M4.num,kP,kF];omega
           rw[e,DX (by omega)];simp only[M4.num,kP,kF];omega
          exact C 2 rfl (al X O ai _ rfl)
         .have hex:(!ah || m.w==1)=false:=by rw[d1];simp;omega
          rw[hex];refine C 5 rfl (JL.uA rfl rfl ?_);refine C 1 rfl (FH (kk:=kk) (p:=.CN false) (dl:= -7) O Z rfl rfl rfl rfl rfl FT rfl rfl λK ap ab=>⟨⟨true,K.k,true,K.w - 1⟩,some .len,?_,d6.2 rfl,?_⟩)
          .obtain⟨av,ay,az,w3⟩:=K;obtain⟨U,g2,V,ae,aA,ag⟩:=ab;simp only at U g2 V ae;subst U g2 V;have aB:w3<134217728:=ag;have e:(⟨false,false,true,w3⟩:M4).num+(-7)=((8*(w3 - 1)+5:Nat):Int):=by simp only[M4.num,kP,kF];omega
           rw[e,DX (by omega)];simp only[M4.num,kP,kF];omega
          exact C 2 rfl (al X O ai _ rfl)
       .refine⟨some (.BC ah true 0 m),by simp[Fam.Bn,aa],?_⟩;refine C 2 rfl ?_;have aC:m.s=false:=by simpa using aa
        refine C 4 rfl (AJ (v:=B7 (A9 m&&& 4)) rfl (λρ h=>CW (c:=4) ac (h _ _ rfl) (h _ _ rfl) (by decide)) ?_);refine AJ (v:=.bool false) rfl (λρ h=>Yl.to (Cr (h _ _ rfl) (h _ _ rfl)) (by rw[(Gg m).2 aC];rfl)) (C 11 rfl ?_);refine JL.again ?_;rw[← aq];exact FR [(0,.pointer (some F.uA)),(2,iV v),(3,.bool ah),(4,.bool true),(5,iV ((0:Nat):Int)),(6,.int .i32 (m:M4).num)] rfl (aM (ah,true,0,m,v) ⟨λ_=>ak.2.1 aC,lz _,au⟩)
      .rw [d5 rfl];refine C 15 rfl (JL.uA rfl rfl ?_);refine FK (kk:=kk) (p:=.CS true) O Z rfl rfl rfl rfl rfl FE GG rfl ?_;intro m aR ak;have au:Ck m:=ak.2.2;have ac:BI m:=au.BI;by_cases aa:m.s=true
       .refine⟨some (.CN (!true || m.w==1)),by simp[Fam.Bn,aa],?_⟩;refine C 2 rfl ?_;let⟨aE,aF,aG⟩:=ak.1 aa;refine C 4 rfl (AJ (v:=B7 (A9 m&&& 4)) rfl (λρ h=>CW (c:=4) ac (h _ _ rfl) (h _ _ rfl) (by decide)) ?_);refine AJ (v:=.bool true) rfl (λρ h=>Yl.to (Cr (h _ _ rfl) (h _ _ rfl)) (by have aH:(((A9 m&&& 4:Nat):Int)≠0):=(λe=>by rw[(Gg m).1 e] at aa;cases aa);rw[k8 aH])) ?_;refine C 6 rfl (AJ (v:=B7 (A9 m&&& 3)) rfl (λρ h=>CW (c:=3) ac (h _ _ rfl) (h _ _ rfl) (by decide)) ?_);refine AJ (v:=.bool false) rfl (λρ h=>Yl.to (Cr (h _ _ rfl) (h _ _ rfl)) (by rw[(ML m).2 ⟨aE,aF⟩];rfl)) (C 2 rfl ?_);refine AJ (v:=B7 m.w) rfl (λρ h=>GZ ac (h _ _ rfl) (h _ _ rfl)) (AJ (v:=.bool false) rfl (λρ h=>Yl.to (Yl.eql (h _ _ rfl) (h _ _ rfl)) (by rw[kZ (λe=>aG (by omega))])) ?_);refine C 12 rfl (AJ (v:=.bool (!true)) rfl (λρ h=>Yl.not (h _ _ rfl)) ?_);refine C 1 rfl (EY (c:= !true) (i:=119) rfl (λd1=>?_) (λd1=>?_))
        .refine AP rfl rfl rfl (C 5 rfl ?_);have hex:(!true || m.w==1)=true:=by rw[d1];simp
         rw[hex];refine C 2 rfl (AJ (v:=.int .i32 (-11)) rfl (λρ h=>Yl.to (Yl.sub (h _ _ rfl) (h _ _ rfl)) rfl) ?_);refine C 6 rfl (JL.uA rfl rfl ?_);refine C 1 rfl (FH (kk:=kk) (p:=.CN true) (dl:= -11) O Z rfl rfl rfl rfl rfl FT rfl rfl λK ap ab=>⟨⟨true,K.k,false,K.w - 1⟩,some .len,?_,d6.2 rfl,?_⟩)
         .obtain⟨av,ay,az,w3⟩:=K;obtain⟨U,g2,V,ae,aA,ag⟩:=ab;simp only at U g2 V ae;subst U g2 V;have aB:w3<134217728:=ag;have e:(⟨false,false,true,w3⟩:M4).num+(-11)=((8*(w3 - 1)+1:Nat):Int):=by simp only[M4.num,kP,kF];omega
          rw[e,DX (by omega)];simp only[M4.num,kP,kF];omega
         exact C 2 rfl (al X O ai _ rfl)
        .refine AJ (v:=.int .i32 (m:M4).num) rfl (λρ h=>Yl.move (h _ _ rfl)) (AJ (v:=B7 m.w) rfl (λρ h=>GZ ac (h _ _ rfl) (h _ _ rfl)) ?_);refine C 3 rfl (AU (p:=(m.w:Int)=1) rfl (λd2=>?_) (λd2=>?_))
         .have hex:(!true || m.w==1)=true:=by rw[d1];simp;omega
          rw[hex];refine C 2 rfl (AJ (v:=.int .i32 (-11)) rfl (λρ h=>Yl.to (Yl.sub (h _ _ rfl) (h _ _ rfl)) rfl) ?_);refine C 6 rfl (JL.uA rfl rfl ?_);refine C 1 rfl (FH (kk:=kk) (p:=.CN true) (dl:= -11) O Z rfl rfl rfl rfl rfl FT rfl rfl λK ap ab=>⟨⟨true,K.k,false,K.w - 1⟩,some .len,?_,d6.2 rfl,?_⟩)
          .obtain⟨av,ay,az,w3⟩:=K;obtain⟨U,g2,V,ae,aA,ag⟩:=ab;simp only at U g2 V ae;subst U g2 V;have aB:w3<134217728:=ag;have e:(⟨false,false,true,w3⟩:M4).num+(-11)=((8*(w3 - 1)+1:Nat):Int):=by simp only[M4.num,kP,kF];omega
           rw[e,DX (by omega)];simp only[M4.num,kP,kF];omega
          exact C 2 rfl (al X O ai _ rfl)
         .have hex:(!true || m.w==1)=false:=by rw[d1];simp;omega
          rw[hex];refine C 5 rfl (JL.uA rfl rfl ?_);refine C 1 rfl (FH (kk:=kk) (p:=.CN false) (dl:= -7) O Z rfl rfl rfl rfl rfl FT rfl rfl λK ap ab=>⟨⟨true,K.k,true,K.w - 1⟩,some .len,?_,d6.2 rfl,?_⟩)
          .obtain⟨av,ay,az,w3⟩:=K;obtain⟨U,g2,V,ae,aA,ag⟩:=ab;simp only at U g2 V ae;subst U g2 V;have aB:w3<134217728:=ag;have e:(⟨false,false,true,w3⟩:M4).num+(-7)=((8*(w3 - 1)+5:Nat):Int):=by simp only[M4.num,kP,kF];omega
           rw[e,DX (by omega)];simp only[M4.num,kP,kF];omega
          exact C 2 rfl (al X O ai _ rfl)
       .refine⟨some (.BC true true 0 m),by simp[Fam.Bn,aa],?_⟩;refine C 2 rfl ?_;have aC:m.s=false:=by simpa using aa
        refine C 4 rfl (AJ (v:=B7 (A9 m&&& 4)) rfl (λρ h=>CW (c:=4) ac (h _ _ rfl) (h _ _ rfl) (by decide)) ?_);refine AJ (v:=.bool false) rfl (λρ h=>Yl.to (Cr (h _ _ rfl) (h _ _ rfl)) (by rw[(Gg m).2 aC];rfl)) (C 11 rfl ?_);refine JL.again ?_;rw[← aq];exact FR [(0,.pointer (some F.uA)),(2,iV v),(3,.bool true),(4,.bool true),(5,iV ((0:Nat):Int)),(6,.int .i32 (m:M4).num)] rfl (aM (true,true,0,m,v) ⟨λ_=>ak.2.1 aC,lz _,au⟩)
     .refine⟨some ((.BL sv)),PC an _ (.inr rfl),?_⟩;refine C 6 rfl (AJ (v:=B7 (A9 old&&& 5)) rfl (λρ h=>CW (c:=5) am (h _ _ rfl) (h _ _ rfl) (by decide)) ?_);refine AJ (v:=.bool false) rfl (λρ h=>Yl.to (Yl.eql (h _ _ rfl) (h _ _ rfl)) (by rw[kZ (λe=>an ((KB old).1 e))])) ?_;refine C 13 rfl (AJ (v:=.bool false) rfl (λρ h=>Yl.to (Yl.eql (h _ _ rfl) (h _ _ rfl)) (by rw[kZ a2])) ?_);refine C 7 rfl (AJ (v:=.pointer (some F.qA)) rfl (λρ h=>Aq (a:=F.uA) 0 1 Tryz.underlying125 Lm rfl rfl rfl (h _ _ rfl)) ?_);refine C 1 rfl (Pj (kk:=kk) (sv:=sv) O Z rfl rfl rfl rfl Qt rfl rfl ?_);refine JL.done ?_;cases sv
      .rw [d7 (by decide)];refine C 4 rfl (Ns (kk:=kk) (p:=.Ei) O Z rfl rfl rfl rfl rfl N6 Oe λbg bh v2 bi=>⟨some (.CS (decide (IntKind.i64.wrap (v2 - wt)>1000000))),by (cases decide (IntKind.i64.wrap (v2 - wt)>1000000)<;>simp[Fam.Bn]),?_⟩);refine C 1 rfl (AJ (v:=.int .i64 (IntKind.i64.wrap (v2 - wt))) rfl (λρ h=>Yl.sub (h _ _ rfl) (h _ _ rfl)) ?_);refine C 4 rfl ?_;generalize decide (IntKind.i64.wrap (v2 - wt)>1000000)=ah;refine C 4 rfl (JL.uA rfl rfl ?_);refine FK (kk:=kk) (p:=.CS ah) O Z rfl rfl rfl rfl rfl FE GG rfl ?_;intro m aR ak;have au:Ck m:=ak.2.2;have ac:BI m:=au.BI;by_cases aa:m.s=true
       .refine⟨some (.CN (!ah || m.w==1)),by simp[Fam.Bn,aa],?_⟩;refine C 2 rfl ?_;let⟨aE,aF,aG⟩:=ak.1 aa;refine C 4 rfl (AJ (v:=B7 (A9 m&&& 4)) rfl (λρ h=>CW (c:=4) ac (h _ _ rfl) (h _ _ rfl) (by decide)) ?_);refine AJ (v:=.bool true) rfl (λρ h=>Yl.to (Cr (h _ _ rfl) (h _ _ rfl)) (by have aH:(((A9 m&&& 4:Nat):Int)≠0):=(λe=>by rw[(Gg m).1 e] at aa;cases aa);rw[k8 aH])) ?_;refine C 6 rfl (AJ (v:=B7 (A9 m&&& 3)) rfl (λρ h=>CW (c:=3) ac (h _ _ rfl) (h _ _ rfl) (by decide)) ?_);refine AJ (v:=.bool false) rfl (λρ h=>Yl.to (Cr (h _ _ rfl) (h _ _ rfl)) (by rw[(ML m).2 ⟨aE,aF⟩];rfl)) (C 2 rfl ?_);refine AJ (v:=B7 m.w) rfl (λρ h=>GZ ac (h _ _ rfl) (h _ _ rfl)) (AJ (v:=.bool false) rfl (λρ h=>Yl.to (Yl.eql (h _ _ rfl) (h _ _ rfl)) (by rw[kZ (λe=>aG (by omega))])) ?_);refine C 12 rfl (AJ (v:=.bool (!ah)) rfl (λρ h=>Yl.not (h _ _ rfl)) ?_);refine C 1 rfl (EY (c:= !ah) (i:=119) rfl (λd1=>?_) (λd1=>?_))
        .refine AP rfl rfl rfl (C 5 rfl ?_);have hex:(!ah || m.w==1)=true:=by rw[d1];simp
         rw[hex];refine C 2 rfl (AJ (v:=.int .i32 (-11)) rfl (λρ h=>Yl.to (Yl.sub (h _ _ rfl) (h _ _ rfl)) rfl) ?_);refine C 6 rfl (JL.uA rfl rfl ?_);refine C 1 rfl (FH (kk:=kk) (p:=.CN true) (dl:= -11) O Z rfl rfl rfl rfl rfl FT rfl rfl λK ap ab=>⟨⟨true,K.k,false,K.w - 1⟩,some .len,?_,d6.2 rfl,?_⟩)
         .obtain⟨av,ay,az,w3⟩:=K;obtain⟨U,g2,V,ae,aA,ag⟩:=ab;simp only at U g2 V ae;subst U g2 V;have aB:w3<134217728:=ag;have e:(⟨false,false,true,w3⟩:M4).num+(-11)=((8*(w3 - 1)+1:Nat):Int):=by simp only[M4.num,kP,kF];omega
          rw[e,DX (by omega)];simp only[M4.num,kP,kF];omega
         exact C 2 rfl (al X O ai _ rfl)
        .refine AJ (v:=.int .i32 (m:M4).num) rfl (λρ h=>Yl.move (h _ _ rfl)) (AJ (v:=B7 m.w) rfl (λρ h=>GZ ac (h _ _ rfl) (h _ _ rfl)) ?_);refine C 3 rfl (AU (p:=(m.w:Int)=1) rfl (λd2=>?_) (λd2=>?_))
         .have hex:(!ah || m.w==1)=true:=by rw[d1];simp;omega
          rw[hex];refine C 2 rfl (AJ (v:=.int .i32 (-11)) rfl (λρ h=>Yl.to (Yl.sub (h _ _ rfl) (h _ _ rfl)) rfl) ?_);refine C 6 rfl (JL.uA rfl rfl ?_);refine C 1 rfl (FH (kk:=kk) (p:=.CN true) (dl:= -11) O Z rfl rfl rfl rfl rfl FT rfl rfl λK ap ab=>⟨⟨true,K.k,false,K.w - 1⟩,some .len,?_,d6.2 rfl,?_⟩)
          .obtain⟨av,ay,az,w3⟩:=K;obtain⟨U,g2,V,ae,aA,ag⟩:=ab;simp only at U g2 V ae;subst U g2 V;have aB:w3<134217728:=ag;have e:(⟨false,false,true,w3⟩:M4).num+(-11)=((8*(w3 - 1)+1:Nat):Int):=by simp only[M4.num,kP,kF];omega
           rw[e,DX (by omega)];simp only[M4.num,kP,kF];omega
          exact C 2 rfl (al X O ai _ rfl)
         .have hex:(!ah || m.w==1)=false:=by rw[d1];simp;omega
          rw[hex];refine C 5 rfl (JL.uA rfl rfl ?_);refine C 1 rfl (FH (kk:=kk) (p:=.CN false) (dl:= -7) O Z rfl rfl rfl rfl rfl FT rfl rfl λK ap ab=>⟨⟨true,K.k,true,K.w - 1⟩,some .len,?_,d6.2 rfl,?_⟩)
          .obtain⟨av,ay,az,w3⟩:=K;obtain⟨U,g2,V,ae,aA,ag⟩:=ab;simp only at U g2 V ae;subst U g2 V;have aB:w3<134217728:=ag;have e:(⟨false,false,true,w3⟩:M4).num+(-7)=((8*(w3 - 1)+5:Nat):Int):=by simp only[M4.num,kP,kF];omega
           rw[e,DX (by omega)];simp only[M4.num,kP,kF];omega
          exact C 2 rfl (al X O ai _ rfl)
       .refine⟨some (.BC ah true 0 m),by simp[Fam.Bn,aa],?_⟩;refine C 2 rfl ?_;have aC:m.s=false:=by simpa using aa
        refine C 4 rfl (AJ (v:=B7 (A9 m&&& 4)) rfl (λρ h=>CW (c:=4) ac (h _ _ rfl) (h _ _ rfl) (by decide)) ?_);refine AJ (v:=.bool false) rfl (λρ h=>Yl.to (Cr (h _ _ rfl) (h _ _ rfl)) (by rw[(Gg m).2 aC];rfl)) (C 11 rfl ?_);refine JL.again ?_;rw[← aq];exact FR [(0,.pointer (some F.uA)),(2,iV wt),(3,.bool ah),(4,.bool true),(5,iV ((0:Nat):Int)),(6,.int .i32 (m:M4).num)] rfl (aM (ah,true,0,m,wt) ⟨λ_=>ak.2.1 aC,lz _,au⟩)
      .rw [d5 rfl];refine C 15 rfl (JL.uA rfl rfl ?_);refine FK (kk:=kk) (p:=.CS true) O Z rfl rfl rfl rfl rfl FE GG rfl ?_;intro m aR ak;have au:Ck m:=ak.2.2;have ac:BI m:=au.BI;by_cases aa:m.s=true
       .refine⟨some (.CN (!true || m.w==1)),by simp[Fam.Bn,aa],?_⟩;refine C 2 rfl ?_;let⟨aE,aF,aG⟩:=ak.1 aa;refine C 4 rfl (AJ (v:=B7 (A9 m&&& 4)) rfl (λρ h=>CW (c:=4) ac (h _ _ rfl) (h _ _ rfl) (by decide)) ?_);refine AJ (v:=.bool true) rfl (λρ h=>Yl.to (Cr (h _ _ rfl) (h _ _ rfl)) (by have aH:(((A9 m&&& 4:Nat):Int)≠0):=(λe=>by rw[(Gg m).1 e] at aa;cases aa);rw[k8 aH])) ?_;refine C 6 rfl (AJ (v:=B7 (A9 m&&& 3)) rfl (λρ h=>CW (c:=3) ac (h _ _ rfl) (h _ _ rfl) (by decide)) ?_);refine AJ (v:=.bool false) rfl (λρ h=>Yl.to (Cr (h _ _ rfl) (h _ _ rfl)) (by rw[(ML m).2 ⟨aE,aF⟩];rfl)) (C 2 rfl ?_);refine AJ (v:=B7 m.w) rfl (λρ h=>GZ ac (h _ _ rfl) (h _ _ rfl)) (AJ (v:=.bool false) rfl (λρ h=>Yl.to (Yl.eql (h _ _ rfl) (h _ _ rfl)) (by rw[kZ (λe=>aG (by omega))])) ?_);refine C 12 rfl (AJ (v:=.bool (!true)) rfl (λρ h=>Yl.not (h _ _ rfl)) ?_);refine C 1 rfl (EY (c:= !true) (i:=119) rfl (λd1=>?_) (λd1=>?_))
        .refine AP rfl rfl rfl (C 5 rfl ?_);have hex:(!true || m.w==1)=true:=by rw[d1];simp
         rw[hex];refine C 2 rfl (AJ (v:=.int .i32 (-11)) rfl (λρ h=>Yl.to (Yl.sub (h _ _ rfl) (h _ _ rfl)) rfl) ?_);refine C 6 rfl (JL.uA rfl rfl ?_);refine C 1 rfl (FH (kk:=kk) (p:=.CN true) (dl:= -11) O Z rfl rfl rfl rfl rfl FT rfl rfl λK ap ab=>⟨⟨true,K.k,false,K.w - 1⟩,some .len,?_,d6.2 rfl,?_⟩)
         .obtain⟨av,ay,az,w3⟩:=K;obtain⟨U,g2,V,ae,aA,ag⟩:=ab;simp only at U g2 V ae;subst U g2 V;have aB:w3<134217728:=ag;have e:(⟨false,false,true,w3⟩:M4).num+(-11)=((8*(w3 - 1)+1:Nat):Int):=by simp only[M4.num,kP,kF];omega
          rw[e,DX (by omega)];simp only[M4.num,kP,kF];omega
         exact C 2 rfl (al X O ai _ rfl)
        .refine AJ (v:=.int .i32 (m:M4).num) rfl (λρ h=>Yl.move (h _ _ rfl)) (AJ (v:=B7 m.w) rfl (λρ h=>GZ ac (h _ _ rfl) (h _ _ rfl)) ?_);refine C 3 rfl (AU (p:=(m.w:Int)=1) rfl (λd2=>?_) (λd2=>?_))
         .have hex:(!true || m.w==1)=true:=by rw[d1];simp;omega
          rw[hex];refine C 2 rfl (AJ (v:=.int .i32 (-11)) rfl (λρ h=>Yl.to (Yl.sub (h _ _ rfl) (h _ _ rfl)) rfl) ?_);refine C 6 rfl (JL.uA rfl rfl ?_);refine C 1 rfl (FH (kk:=kk) (p:=.CN true) (dl:= -11) O Z rfl rfl rfl rfl rfl FT rfl rfl λK ap ab=>⟨⟨true,K.k,false,K.w - 1⟩,some .len,?_,d6.2 rfl,?_⟩)
          .obtain⟨av,ay,az,w3⟩:=K;obtain⟨U,g2,V,ae,aA,ag⟩:=ab;simp only at U g2 V ae;subst U g2 V;have aB:w3<134217728:=ag;have e:(⟨false,false,true,w3⟩:M4).num+(-11)=((8*(w3 - 1)+1:Nat):Int):=by simp only[M4.num,kP,kF];omega
           rw[e,DX (by omega)];simp only[M4.num,kP,kF];omega
          exact C 2 rfl (al X O ai _ rfl)
         .have hex:(!true || m.w==1)=false:=by rw[d1];simp;omega
          rw[hex];refine C 5 rfl (JL.uA rfl rfl ?_);refine C 1 rfl (FH (kk:=kk) (p:=.CN false) (dl:= -7) O Z rfl rfl rfl rfl rfl FT rfl rfl λK ap ab=>⟨⟨true,K.k,true,K.w - 1⟩,some .len,?_,d6.2 rfl,?_⟩)
          .obtain⟨av,ay,az,w3⟩:=K;obtain⟨U,g2,V,ae,aA,ag⟩:=ab;simp only at U g2 V ae;subst U g2 V;have aB:w3<134217728:=ag;have e:(⟨false,false,true,w3⟩:M4).num+(-7)=((8*(w3 - 1)+5:Nat):Int):=by simp only[M4.num,kP,kF];omega
           rw[e,DX (by omega)];simp only[M4.num,kP,kF];omega
          exact C 2 rfl (al X O ai _ rfl)
       .refine⟨some (.BC true true 0 m),by simp[Fam.Bn,aa],?_⟩;refine C 2 rfl ?_;have aC:m.s=false:=by simpa using aa
        refine C 4 rfl (AJ (v:=B7 (A9 m&&& 4)) rfl (λρ h=>CW (c:=4) ac (h _ _ rfl) (h _ _ rfl) (by decide)) ?_);refine AJ (v:=.bool false) rfl (λρ h=>Yl.to (Cr (h _ _ rfl) (h _ _ rfl)) (by rw[(Gg m).2 aC];rfl)) (C 11 rfl ?_);refine JL.again ?_;rw[← aq];exact FR [(0,.pointer (some F.uA)),(2,iV wt),(3,.bool true),(4,.bool true),(5,iV ((0:Nat):Int)),(6,.int .i32 (m:M4).num)] rfl (aM (true,true,0,m,wt) ⟨λ_=>ak.2.1 aC,lz _,au⟩)
   .refine JL.done (C 4 rfl ?_);refine JL.uA rfl rfl (FK (kk:=kk) (p:=.CO sv aw it) O Z rfl rfl rfl rfl rfl FE GG rfl λar aW aD=>⟨some (.BC sv aw it ar),d6.2 rfl,?_⟩);refine C 3 rfl (JL.again ?_);rw[← aq];exact FR [(0,.pointer (some F.uA)),(2,iV wt),(3,.bool sv),(4,.bool aw),(5,iV (it:Int)),(6,.int .i32 (ar:M4).num)] rfl (aM (sv,aw,it,ar,wt) ⟨aD.2.2.2,aI.2.1,aD.2.2.1⟩)
 exact λa aS=>key 5 a (by omega) aS
set_option maxHeartbeats 4000000 in
theorem RN(K:s.q=false)(O:ops[i]?=some ⟨d,.call ⟨.value (.func 74),#[x],ats⟩,ty,pp,af,g⟩)(hw:AO L ops ⟨d,.call ⟨.value (.func 74),#[x],ats⟩,ty,pp,af,g⟩=some true)(U:((b.kind != .early)&&A5 n d)=true)(V:ev L x=some (.pointer (some F.uA)))
  (h:JL (AF Tryz.prog false) (Stop Tryz.prog F (.lk kk .DF)) b n (Az L d (.tuple #[])) ds (.inRegion ops rest::k) cs s):
  JL (AF Tryz.prog false) (Stop Tryz.prog F (.lk kk .Ff)) b n L ds (.inRegion ops (i::rest)::k) cs s:=by
 refine EZ (vs:=[.pointer (some F.uA)]) O hw U Tryz.func74 (by decide+kernel) rfl (by simp[evs,V]) (d4 rfl) λZ back=>C 2 rfl (Ja (kk:=kk) (p:=.Ff) Cj.stop K rfl (λ_ _=>rfl) rfl rfl rfl rfl (by simp) QP ?_);refine C 6 rfl (JL.uA rfl rfl ?_);refine PK (kk:=kk) (p:=.Fp) (old:=M4.zero) (nw:=⟨true,false,false,0⟩) Cj.stop K rfl rfl rfl rfl rfl Mv rfl rfl rfl (λq Y=>⟨some .len,by simp[Fam.Bn],?_⟩) (λm q hm Y=>⟨some (.CO false false 0),by simp[Fam.Bn,hm],?_⟩);refine JL.done (C 5 rfl ?_);refine Ja (kk:=kk) (p:=.len) Cj.stop K rfl (λ_ _=>rfl) rfl rfl rfl rfl (by simp) MT (C 3 rfl ?_);refine Nu (kk:=kk) (p:=.IN) Cj.stop K rfl (λ_ _=>rfl) rfl rfl rfl rfl Tryz.underlying181 Tryz.underlying153 NQ rfl (NU (kk:=kk) (p:=.Hb) (ad:=F.uA) Cj.stop K rfl (λ_ _=>rfl) rfl rfl rfl rfl (by simp) QM rfl rfl ?_);exact JL.done (JL.ret rfl rfl (Ay.none Tryz.func74 rfl) (back _ _ _ _ h));refine JL.done (C 4 rfl ?_);refine SS (kk:=kk) K rfl rfl rfl rfl (JL.done ?_);exact JL.fin rfl rfl (Ay.none Tryz.func74 rfl) (back _ _ _ _ h)
set_option maxHeartbeats 4000000 in
theorem Sd(K:s.q=false)(O:ops[i]?=some ⟨d,.call ⟨.value (.func 50),#[x],ats⟩,ty,pp,af,g⟩)(hw:AO L ops ⟨d,.call ⟨.value (.func 50),#[x],ats⟩,ty,pp,af,g⟩=some true)(U:((b.kind != .early)&&A5 n d)=true)(V:ev L x=some (.pointer (some F.uA)))
  (h:JL (AF Tryz.prog false) (Stop Tryz.prog F (.lk kk .DF)) b n (Az L d (.tuple #[])) ds (.inRegion ops rest::k) cs s):
  JL (AF Tryz.prog false) (Stop Tryz.prog F (.lk kk .Ff)) b n L ds (.inRegion ops (i::rest)::k) cs s:=by
 refine EZ (vs:=[.pointer (some F.uA)]) O hw U Tryz.func50 (by decide+kernel) rfl (by simp[evs,V]) (d4 rfl) λY back=>C 3 rfl (AJ (v:=.pointer (some F.uA)) rfl (λρ h=>Aq (a:=F.uA) 1 0 Tryz.underlying127 (AB Tryz.type125) rfl rfl rfl (h _ _ rfl)) ?_);refine RN (kk:=kk) K rfl rfl rfl rfl (JL.done ?_);exact JL.fin rfl rfl (Ay.none Tryz.func50 rfl) (back _ _ _ _ h)
def GL(m:M4):LP:=if m.l=false/\m.k=false/\m.s=false/\m.w≠0 then .CY m else .DC
def Ox(m:M4):LP:=if m.s=true then .Dx true else if m.k=false/\m.w≠0 then .CY {m with l:=false} else .DC
set_option maxHeartbeats 4000000 in
theorem R8{V:Operand}{nw:M4}(U:s.q=false)(ao:ops[i]?=some ⟨d,.call ⟨.value (.func 92),#[x,V],ats⟩,ty,pp,af,g⟩)(hw:AO L ops ⟨d,.call ⟨.value (.func 92),#[x,V],ats⟩,ty,pp,af,g⟩=some true)(ap:((b.kind != .early)&&A5 n d)=true)(aq:ev L x=some (.pointer (some F.uA)))(ar:ev L V=some (.int .i32 nw.num))(ab:nw.l=false)(au:Ck nw)(Z:BI nw)
  (h:JL (AF Tryz.prog false) (Stop Tryz.prog F (.lk kk .DC)) b n (Az L d (.tuple #[])) ds (.inRegion ops rest::k) cs s):
  JL (AF Tryz.prog false) (Stop Tryz.prog F (.lk kk (if nw.s=true then .Dx true else if nw.k=false/\nw.w≠0 then .CY nw else .DC))) b n L ds (.inRegion ops (i::rest)::k) cs s:=by
 refine EZ (vs:=[.pointer (some F.uA),.int .i32 nw.num]) ao hw ap Tryz.func92 (by decide+kernel) rfl (by simp[evs,aq,ar]) (d4 rfl) λac back=>C 4 rfl (AJ (v:=.int .i32 ({nw with l:=true}:M4).num) rfl (λρ h=>UP Z ab (h _ _ rfl) (h _ _ rfl)) ?_);refine AJ (v:=B7 (A9 ({nw with l:=true}:M4)&&& 1)) rfl (λρ h=>CW (c:=1) (m:={nw with l:=true}) Z (h _ _ rfl) (h _ _ rfl) (by decide)) (AJ (v:=.bool false) rfl (λρ h=>Yl.to (Yl.eql (h _ _ rfl) (h _ _ rfl)) (by rw[kZ (λe=>by have q:=(Od _).1 e;cases q)])) ?_);refine C 6 rfl (AJ (v:=B7 (A9 nw&&& 4)) rfl (λρ h=>CW (c:=4) Z (h _ _ rfl) (h _ _ rfl) (by decide)) ?_);refine C 2 rfl (AU (p:=((A9 nw&&& 4:Nat):Int)=0) rfl (λc=>?_) (λc=>?_))
 .have ae:=(Gg nw).1 c;rw[d7 (by rw[ae];exact f8)];refine C 6 rfl ?_;refine HV ?_;refine FR [(0,.pointer (some F.uA)),(4,.int .i32 nw.num)] rfl ?_;refine QS λag ah=>?_;have av:(if nw.k=false/\nw.w≠0 then LP.CY nw else .DC)=GL nw:=by unfold GL;rw[ab,ae];simp
  rw[av];refine Qs (P:=Tryz.prog) (F:=F) (s:=s) (kk:=kk) (ph:=λm=>LP.CY m) (ok:=Ck) (head:=λ(X:Ph->GP) (a:M4)=>JL (AF Tryz.prog false) (X (.lk kk (GL a))) (base 92) Tryz.f92.ntmps ([(0,.pointer (some F.uA)),(4,.int .i32 (a:M4).num)]) [] ag (ac::cs) s) ?_ nw au;intro Y aF ai hC old aj;have K:BI old:=aj.BI;show JL (AF Tryz.prog false) (Y (.lk kk (GL old))) (base 92) Tryz.f92.ntmps [(0,.pointer (some F.uA)),(4,.int .i32 old.num)] [] ag (ac::cs) s;rw[ah];refine C 5 rfl (AJ (v:=B7 old.w) rfl (λρ h=>GZ K (h _ _ rfl) (h _ _ rfl)) ?_);refine C 2 rfl (DW (q:=(old.w:Int)=0) (i:=17) rfl (λc2=>?_) (λc2=>?_))
  .have O:GL old=.DC:=by unfold GL;rw[d7 (λe=>e.2.2.2 (by omega))]
   refine C 6 rfl ?_;rw[O];exact JL.ret rfl rfl (Ay.none Tryz.func92 rfl) (back _ _ _ _ (LU (λg s=>ai _ g s) h))
  .refine AJ (v:=.int .i32 (old:M4).num) rfl (λρ h=>Yl.move (h _ _ rfl)) (AJ (v:=B7 (A9 old&&& 7)) rfl (λρ h=>CW (c:=7) K (h _ _ rfl) (h _ _ rfl) (by decide)) ?_);refine C 3 rfl (AU (p:=((A9 old&&& 7:Nat):Int)≠0) rfl (λc3=>?_) (λc3=>?_))
   .have O:GL old=.DC:=by unfold GL;rw[d7 (λe=>c3 ((QN old).2 ⟨e.1,e.2.1,e.2.2.1⟩))]
    rw[O];exact JL.ret rfl rfl (Ay.none Tryz.func92 rfl) (back _ _ _ _ (LU (λg s=>ai _ g s) h))
   .have aw:=(QN old).1 (mp.1 c3);obtain⟨l0,aG,aH,w0⟩:=old;obtain⟨z1,ak,al⟩:=aw;simp only at z1 ak al c2;subst z1 ak al;have am:w0≠0:=by omega
    have O:GL ⟨false,false,false,w0⟩=.CY ⟨false,false,false,w0⟩:=by unfold GL;rw[d5 ⟨rfl,rfl,rfl,am⟩]
    rw[O];refine C 4 rfl (AJ (v:=.int .i32 (⟨false,false,false,w0 - 1⟩:M4).num) rfl (λρ h=>Vi (m:=⟨false,false,false,w0⟩) K am (h _ _ rfl) (h _ _ rfl)) ?_);refine AJ (v:=.int .i32 (⟨false,true,false,w0 - 1⟩:M4).num) rfl (λρ h=>Me (c:=2) (m:=⟨false,false,false,w0 - 1⟩) (by unfold BI at K ⊢;simp only at K ⊢;omega) (by decide) (Oz _) rfl (h _ _ rfl) (h _ _ rfl)) (C 7 rfl ?_);refine JL.uA rfl rfl (C 2 rfl ?_);refine λT ay=>(AF Tryz.prog false).stop (hC ⟨false,false,false,w0⟩ _ aj λX aI az an aA aB=>?_);refine NG (kk:=kk) (p:=.CY ⟨false,false,false,w0⟩) (old:=⟨false,false,false,w0⟩) (nw:=⟨false,true,false,w0 - 1⟩) az U rfl rfl rfl rfl rfl Mv rfl rfl rfl (λq aC=>⟨some (.Dx false),by simp[Fam.Bn],?_⟩) (λm q hm aC=>⟨some .Ft,by simp[Fam.Bn,hm],?_⟩) T ay;refine JL.done (C 5 rfl ?_);refine AJ (v:=.pointer (some F.qA)) rfl (λρ h=>Aq (a:=F.uA) 0 1 Tryz.underlying125 Lm rfl rfl rfl (h _ _ rfl)) (Pz (kk:=kk) (st:=false) an U rfl rfl rfl rfl QG rfl rfl ?_);exact JL.done (JL.ret rfl rfl (Ay.none Tryz.func92 rfl) (back _ _ _ _ (LU (λg s=>aA _ g s) h)));refine JL.done (C 5 rfl ?_);refine JL.uA rfl rfl (FK (kk:=kk) (p:=.Ft) an U rfl rfl rfl rfl rfl FE W6 rfl λaa aJ aD=>⟨some (GL aa),d6.2 rfl,?_⟩);refine C 3 rfl (JL.again ?_);rw[← ah];exact FR [(0,.pointer (some F.uA)),(4,.int .i32 aa.num)] rfl (aB aa aD)
 .have aE:nw.s=true:=by rcases mG nw.s with hh | hh;exact hh;exact absurd ((Gg nw).2 hh) c
  rw[d5 aE];refine C 3 rfl (AJ (v:=.pointer (some F.qA)) rfl (λρ h=>Aq (a:=F.uA) 0 1 Tryz.underlying125 Lm rfl rfl rfl (h _ _ rfl)) ?_);refine Pz (kk:=kk) (st:=true) Cj.stop U rfl rfl rfl rfl QG rfl rfl (JL.done ?_);exact JL.fin rfl rfl (Ay.none Tryz.func92 rfl) (back _ _ _ _ h)
set_option maxHeartbeats 4000000 in
theorem Rs(K:s.q=false)(ab:ops[i]?=some ⟨d,.call ⟨.value (.func 75),#[x],ats⟩,ty,pp,af,g⟩)(hw:AO L ops ⟨d,.call ⟨.value (.func 75),#[x],ats⟩,ty,pp,af,g⟩=some true)(ac:((b.kind != .early)&&A5 n d)=true)(ae:ev L x=some (.pointer (some F.uA)))
  (h:JL (AF Tryz.prog false) (Stop Tryz.prog F (.B3 (kk+1))) b n (Az L d (.tuple #[])) ds (.inRegion ops rest::k) cs s):
  JL (AF Tryz.prog false) (Stop Tryz.prog F (.lk kk .Em)) b n L ds (.inRegion ops (i::rest)::k) cs s:=by
 refine EZ (vs:=[.pointer (some F.uA)]) ab hw ac Tryz.func75 (by decide+kernel) rfl (by simp[evs,ae]) (d4 rfl) λal back=>C 6 rfl (JL.uA rfl rfl ?_);refine FK (kk:=kk) (p:=.Em) Cj.stop K rfl rfl rfl rfl rfl FE W4 rfl λam an ao=>⟨some .HK,d6.2 rfl,?_⟩;refine C 4 rfl (Nu (kk:=kk) (p:=.HK) Cj.stop K rfl (λ_ _=>rfl) rfl rfl rfl rfl Tryz.underlying181 Tryz.underlying153 NQ rfl ?_);refine NU (kk:=kk) (p:=.GO) (ad:=F.uA) Cj.stop K rfl (λ_ _=>rfl) rfl rfl rfl rfl (by simp) Xi rfl rfl (C 2 rfl ?_);refine Ja (kk:=kk) (p:=.Ih) Cj.stop K rfl (λ_ _=>rfl) rfl rfl rfl rfl (by simp) QP (C 5 rfl ?_);refine JL.uA rfl rfl (FH (kk:=kk) (p:=.FW) (dl:= -1) Cj.stop K rfl rfl rfl rfl rfl FT rfl rfl λm q V=>⟨{m with l:=false},some (Ox m),?_,d6.2 rfl,?_⟩)
 .obtain⟨ag,O,U,w3⟩:=m;obtain⟨Y,ah⟩:=V;simp only at Y;subst Y;have ap:w3<134217728:=ah;have aq:=ma O;have ar:=ma U;have e:(⟨true,O,U,w3⟩:M4).num+(-1)=((2*O.toNat+4*U.toNat+8*w3:Nat):Int):=by simp only[M4.num,kP];omega
  rw[e,DX (by omega)];simp only[M4.num,kF];omega
 .have Z:Ck m:=V.2;have ai:BI ({m with l:=false}:M4):=(show Ck ({m with l:=false}:M4) from Z).BI;refine C 8 rfl ?_;refine AU (p:=({m with l:=false}:M4).num≠0) rfl (λc=>?_) (λc=>?_);refine JL.region (C 2 rfl ?_);refine R8 (kk:=kk) (nw:={m with l:=false}) K rfl rfl rfl rfl rfl rfl Z ai (C 2 rfl ?_);refine Ja (kk:=kk) (p:=.DC) Cj.stop K rfl (λ_ _=>rfl) rfl rfl rfl rfl (by simp) MT (JL.done ?_);exact JL.fin rfl rfl (Ay.none Tryz.func75 rfl) (back _ _ _ _ h)
  .have aj:({m with l:=false}:M4).num=0:=mp.1 c;have aa:m.k=false/\m.s=false/\m.w=0:=by
    obtain⟨ag,O,U,w3⟩:=m;cases O<;>cases U<;>simp[M4.num] at aj ⊢<;>omega
   have ak:Ox m=.DC:=by unfold Ox;rw[d7 (by rw[aa.2.1];exact f8),d7 (λe=>e.2 aa.2.2)]
   rw[ak];refine C 2 rfl (Ja (kk:=kk) (p:=.DC) Cj.stop K rfl (λ_ _=>rfl) rfl rfl rfl rfl (by simp) MT ?_);exact JL.done (JL.fin rfl rfl (Ay.none Tryz.func75 rfl) (back _ _ _ _ h))
theorem RH(K:s.q=false)(O:ops[i]?=some ⟨d,.call ⟨.value (.func 51),#[x],ats⟩,ty,pp,af,g⟩)(hw:AO L ops ⟨d,.call ⟨.value (.func 51),#[x],ats⟩,ty,pp,af,g⟩=some true)(U:((b.kind != .early)&&A5 n d)=true)(V:ev L x=some (.pointer (some F.uA)))
  (h:JL (AF Tryz.prog false) (Stop Tryz.prog F (.B3 (kk+1))) b n (Az L d (.tuple #[])) ds (.inRegion ops rest::k) cs s):
  JL (AF Tryz.prog false) (Stop Tryz.prog F (.lk kk .Em)) b n L ds (.inRegion ops (i::rest)::k) cs s:=by
 refine EZ (vs:=[.pointer (some F.uA)]) O hw U Tryz.func51 (by decide+kernel) rfl (by simp[evs,V]) (d4 rfl) λY back=>C 3 rfl (AJ (v:=.pointer (some F.uA)) rfl (λρ h=>Aq (a:=F.uA) 1 0 Tryz.underlying127 (AB Tryz.type125) rfl rfl rfl (h _ _ rfl)) ?_);refine Rs (kk:=kk) K rfl rfl rfl rfl (JL.done ?_);exact JL.fin rfl rfl (Ay.none Tryz.func51 rfl) (back _ _ _ _ h)
end Pal
namespace Pal
open Go Go.Conc
open Go.ConcN (upd)
theorem RP{P:Program}{fn:FuncId}{es:Array Event}{e:Event}(h:e∈seen P fn es):∀f,e.loc≠ .mark (.extern f):=by
 rw[seen_def] at h;have key:∀(l:List Event) (q:Bool) (kept:Array Event),(∀e∈kept,∀f,e.loc≠ .mark (.extern f))->∀e∈(l.foldl (seenStep λf=>(P.funcs[f]?).any (·.norace)) (q,kept)).2,∀f,e.loc≠ .mark (.extern f):=by
  intro l
  induction l with
  | nil=>exact λ_ _ h=>h
  | cons a l O=>
   intro q kept K;simp only[mg,seenStep];split;exact O _ _ K;rename_i U;refine O _ _ λe he=>?_;split at he;exact K e he;rcases nc.1 he with he | rfl;exact K e he;exact U
 exact key _ _ _ (by simp) e h
theorem OY{P:Program}{α:Type}{x:Sem α}{v:α}(h:lp P x .quiet (λa _=>a=v) (λ_ _=>False)):(∀w,x.run P w=.ok v w)/\∃es,(∀w,x.events P w #[]=es)/\∀e∈es,∃f,e.loc=.mark (.extern f):=by
 obtain⟨es,h1,O,⟨a,rfl,K⟩ | ⟨_,K,_⟩⟩:=NF x h;exact⟨K,es,h1,O⟩;exact K.elim
variable {κ ν:Type}{pk:Rp κ}{pv:Rp ν}{ka va:Bool}{E:LH}
variable{w:World}
section
variable [DecidableEq κ]
theorem R4{P:Program}{t tm te u:TypeId}{r:Nat}{o:Obj}{xs:List (κ×ν)}{k:Value}{x:κ}(ac:HE P t pk ka)(hm:P.underlying tm=some (.map t te))(hw:w.heap[r]?=some o)(am:Df pk ka pv va E o xs)(Y:Vr pk ka E k x):
  ∃o',(Builtin.delete_ #[tm,t] u #[.map (some r),k]).run P w=.ok (.tuple #[]) {w with heap:=w.heap.setIfInBounds r o'}/\Df pk ka pv va E o' (Cu xs x)/\∀e∈(Builtin.delete_ #[tm,t] u #[.map (some r),k]).events P w #[],(∃f,e.loc=.mark (.extern f))∨(e.loc=.obj r/\e.sync=false):=by
 obtain⟨h1,ys,Z,es,c,rfl,aa,ae,ag⟩:=am;let⟨c1,ce,c2,c3⟩:=OY (v:=()) (ac.Bt (em:=es.isEmpty) Y rfl);let⟨f1,O,f2,f3⟩:=OY (OZ (s:=.quiet) (X:=λ_ _=>False) (Q:=λa _=>a=Fv x es.toList ys 0) ac Y aa rfl);have ah:∀a,(getObj r).events P w a=a.push ⟨.obj r,false,false⟩:=λa=>by simp[getObj,Sem.events,Sem.runT,hw,Obj.isChan,-Sem.runT_eq]
 have ai:∀(es:Array MapEntry) (c:Nat) a,(setObj r (.map es c)).events P w a=a.push ⟨.obj r,true,false⟩:=λes c a=>by simp[setObj,Sem.events,Sem.runT,hw,Obj.isChan,-Sem.runT_eq]
 have U:(getObj r).run P w=.ok (.map es c) w:=by simp[getObj,Sem.run,hw]
 have V:∀o,(setObj r o).run P w=.ok () {w with heap:=w.heap.setIfInBounds r o}:=λo=>by simp[setObj,Sem.run,hw]
 have aj:∀a,(Instr.checkKey es.isEmpty 10000 t k).events P w a=a++ce:=λa=>by rw[Sem.events_acc,c2]
 have ak:∀a,(Instr.findKey t k es.toList).events P w a=a++O:=λa=>by rw[Sem.events_acc,f2]
 have mem:∀e∈(((#[]:Array Event).push ⟨.obj r,false,false⟩++ce)++O).push ⟨.obj r,true,false⟩,(∃f,e.loc=.mark (.extern f))∨(e.loc=.obj r/\e.sync=false):=by
  intro e he;rcases nc.1 he with he | rfl;rcases lx.1 he with he | he;rcases lx.1 he with he | he;rcases nc.1 he with he | rfl;simp at he;exact .inr ⟨rfl,rfl⟩;exact .inl (c3 e he);exact .inl (f3 e he);exact .inr ⟨rfl,rfl⟩
 rcases CI.erase Y (i:=0) aa (h1.perm Z) with⟨ab,e2⟩ | ⟨j,v,ab,e2⟩
 .rw [ab] at f1;refine⟨.map es c,?_,⟨h1.del _,_,Nr Z x,es,c,rfl,by rw[e2];exact aa,ae,ag⟩,?_⟩;simp[Builtin.delete_,Sem.run_bind,run_underlying hm,Result.andThen,U,c1,f1,V]
  .have K:(Builtin.delete_ #[tm,t] u #[.map (some r),k]).events P w #[]=(((#[]:Array Event).push ⟨.obj r,false,false⟩++ce)++O).push ⟨.obj r,true,false⟩:=by
    simp[Builtin.delete_,Sem.run_bind,run_underlying hm,Result.andThen,U,c1,f1,V,Result.evThen,ah,aj,ak,ai]
   rw[K];exact mem
 .rw [ab] at f1;have al:(es.toList.eraseIdx j).Sublist es.toList:=List.eraseIdx_sublist _ _;have K:(es.eraseIdxIfInBounds (0+j)).toList=es.toList.eraseIdx j:=by rw[l1];simp
  refine⟨.map (es.eraseIdxIfInBounds (0+j)) c,?_,⟨h1.del _,_,Nr Z x,_,c,rfl,by rw[K];exact e2,?_,?_⟩,?_⟩;simp[Builtin.delete_,Sem.run_bind,run_underlying hm,Result.andThen,U,c1,f1,V];rw[K];exact ae.sublist (al.map _);rw[K];exact λe he=>ag e (al.subset he)
  .have K:(Builtin.delete_ #[tm,t] u #[.map (some r),k]).events P w #[]=(((#[]:Array Event).push ⟨.obj r,false,false⟩++ce)++O).push ⟨.obj r,true,false⟩:=by
    simp[Builtin.delete_,Sem.run_bind,run_underlying hm,Result.andThen,U,c1,f1,V,Result.evThen,ah,aj,ak,ai]
   rw[K];exact mem
end
variable {ops:Ao_}{i:Nat}{rest:List Nat}{d:Option Tmp}{f:FuncId}{x y:Operand}{ats:Array TypeId}{ty t tm te:TypeId}{pp:String}{af:Ae_}{g:On_}{kk lo:Nat}
variable{c:Nat}
section
variable {P:Program}{F:Fam}{n:Nat}{L:Env}{ds:Ld_}{k:Li_}{cs:Lf_}{s:St}{b:Frame}
theorem Uo(h:F.NX w c):w.cell? F.nA=some (.int .i64 c)/\w.frozen? F.nA=false:=by
 unfold Fam.NX Fam.IS at h;constructor;simp[World.cell?,Fam.nA,h];simp[World.frozen?,Fam.nA,h]
theorem RJ{O:Nat}(h:F.NX w c):w.setCell F.nA (.int .i64 O)=F.FV w O:=by
 unfold Fam.FV World.setCell;congr 1;apply lf;intro i;unfold Fam.NX Fam.IS at h;rw[lK];have U:F.nx<w.heap.size:=by
  rcases kC F.nx w.heap.size with K | K;exact K;simp[kJ K] at h
 by_cases e:F.nx=i;subst e;rw[kD U,h];simp[Fam.nA,Fam.IS];rw[f6 e];simp[Fam.nA,e]
theorem SO(Y:s.q=false)(Z:ops[i]?=some ⟨d,.call ⟨.value (.func f),#[x,y],ats⟩,ty,pp,af,g⟩)(U:b.roundOf=none)(hw:AO L ops ⟨d,.call ⟨.value (.func f),#[x,y],ats⟩,ty,pp,af,g⟩=some true)(O:((b.kind != .early)&&A5 n d)=true)
  (he:Bq P f (Extern.Atomic.update (Op.intArith .add) .i64 true)) (aa:ev L x=some (.pointer (some F.nA))) (ab:ev L y=some (.int .i64 1))
  (h:∀c:Nat,lo<=c->c<4611686018427387904->JL (AF P false) (Stop P F (F.tk c)) b n (Az L d (.int .i64 ((c+1:Nat):Int))) ds (.inRegion ops rest::k) cs s):
  JL (AF P false) (Stop P F (.B3 lo)) b n L ds (.inRegion ops (i::rest)::k) cs s:=λT K=>by
 simp only[f5] at O
 obtain⟨fn,ac,ae,hb,ag,he⟩:=he.h
 refine(AF P _).stop (ER.stop {
  run:=rfl,offers:=rfl,quiet:=(by simp[Fam.BW]),live:=λ_=>Y,act:=(by simp[Fam.act]),GK:=(by simp),Ds:=(by simp),go:=(by simp),lk:=(by simp),BL:=(by simp),store:=(by simp),fin:=(by simp),take:=λal e c ah ai=>?_})
 cases e
 refine⟨_,rfl,λw V=>?_,h c ah ai _ (K.put O.2 _)⟩
 let⟨c1,c2⟩:=Uo V
 have aj:IntKind.i64.wrap ((c:Int)+1)=((c+1:Nat):Int):=by
  have ak:IntKind.i64.bits=64:=rfl;have e2:IntKind.i64.signed=true:=rfl;simp only[IntKind.wrap,ak,e2];simp;omega
 rw[Be U,Be U,stepG_add_atomic (a:=⟨T,ds⟩) Z (BF K hw) (by simpa using O.1) rfl ac ae hb ag .i64 he (by rw[CQ];exact K.ev aa) (by rw[CQ];exact K.ev ab) c1 c2,aj,RJ V,CH]
 rfl
variable [DecidableEq κ]
theorem Ts{K:Value}{x0:κ}(aa:HE P t pk ka)(hm:P.underlying tm=some (.map t te))(ab:Vr pk ka E K x0)(ac:∀D o,F.rel D o->∃xs:List (κ×ν),Df pk ka pv va E o xs/\∀o',Df pk ka pv va E o' (Cu xs x0)->F.rel (λa=>D a∨a=kk) o')
  (ae:s.q=false) (ag:ops[i]?=some ⟨d,.call ⟨.builtin .delete,#[x,y],#[tm,t]⟩,ty,pp,af,g⟩) (Z:b.roundOf=none) (hw:AO L ops ⟨d,.call ⟨.builtin .delete,#[x,y],#[tm,t]⟩,ty,pp,af,g⟩=some true) (U:((b.kind != .early)&&A5 n d)=true)
  (ah:ev L x=some (.map (some F.fd))) (ai:ev L y=some K)
  (h:JL (AF P false) (Stop P F (.lk kk .Em)) b n (Az L d (.tuple #[])) ds (.inRegion ops rest::k) cs s):
  JL (AF P false) (Stop P F (.lk kk .DF)) b n L ds (.inRegion ops (i::rest)::k) cs s:=λT O=>by
 simp only[f5] at U
 refine(AF P _).stop (ER.stop {
  run:=rfl,offers:=rfl,quiet:=(by simp[Fam.BW]),live:=λ_=>ae,act:=(by simp[Fam.act]),GK:=(by simp),Ds:=(by simp),go:=(by simp),lk:=λk' l e aj=>by cases e;exact absurd rfl aj
  BL:=(by simp),store:=λk' e=>?_,fin:=(by simp),take:=(by simp)})
 cases e
 refine⟨_,rfl,λw o D ak al=>?_,h _ (O.put U.2 _)⟩
 let⟨xs,am,an⟩:=ac D o al
 have V:execOp (Bc T) ⟨d,.call ⟨.builtin .delete,#[x,y],#[tm,t]⟩,ty,pp,af,g⟩=(do pure (Next.value (← Builtin.delete_ #[tm,t] ty #[Bc T x,Bc T y]))):=by
  simp[execOp,resolve,Deferred.ofValue,invoke,bind,Sem.bind,pure,Go.builtin]
 rw[O.ev ah,O.ev ai] at V;let⟨o',r1,r2,r3⟩:=R4 (u:=ty) aa hm ak am ab;refine⟨o',listed P b.fn ⟨T,ds⟩ ⟨d,.call ⟨.builtin .delete,#[x,y],#[tm,t]⟩,ty,pp,af,g⟩ w,?_,an o' r2,λe he=>?_⟩;rw[Be Z,Be Z,stepG_value (a:=⟨T,ds⟩) (w':=F.Gm w o') (v:=.tuple #[]) ag (BF O hw) (by simpa using U.1) (by rw[Iy,V];simp[Sem.run_bind,r1,Result.andThen];rfl),CH]
 .have ao:=RP he;have Y:=mem_listed he;rw[Iy,V] at Y;have ap:(do pure (Next.value (← Builtin.delete_ #[tm,t] ty #[.map (some F.fd),K])):Sem Next).events P w #[]=(Builtin.delete_ #[tm,t] ty #[.map (some F.fd),K]).events P w #[]:=by
   simp[r1,Result.evThen]
  rw[ap] at Y;rcases r3 e Y with⟨f,q⟩ | q;exact absurd q (ao f);exact q
end
end Pal
namespace Pal
open Go Go.Conc Go.Proofs
open Go.Conc.Lib Go.ConcR.Gen
theorem UW:Bq Tryz.prog 71 (Extern.Atomic.update (Op.intArith .add) .i64 true):=⟨⟨_,Tryz.func71,by decide+kernel,V,by kernel_rfl,by kernel_rfl⟩⟩
variable{c:Nat}
theorem U2{α:Type}{xs:List α}{x:α}(h:ix xs (c:Int)=some x):some x=xs[c]? :=by
 let⟨m,e,h⟩:=FM h;obtain rfl:c=m:=by exact_mod_cast e
 exact h.symm
def Ju:Code->Option Code
 | .loop a=>some a
 | .seq a b=>(Ju a).orElse λ_=>Ju b
 | .block _ a=>Ju a
 | .scope a=>Ju a
 | _=>none
noncomputable def Jl:Code:=match(Tryz.f46.body).bind Ju with | some c=>c | none=>.skip
noncomputable def VZ:Code:=match Tryz.f46.body with | some (.scope c)=>c | _=>.skip
def Mp(fuel:Nat)(v:(Int×Int×(List (Int×Int×Int×Int))))(all:List (Nat×Nat))(c:Nat):Option Bool:=
 (ix all ((c:Int))).bind λK=>
 (ix all ((c:Int))).bind λO=>
 (GD fuel v K).bind λU=>
 some (decide ((((U):Nat):Int)=(((O.1):Nat):Int)))
variable{F:Fam}{E H:LH}{a1 ap:Option Addr}{c2 fuel ka kb kc:Nat}{v:(Int×Int×(List (Int×Int×Int×Int)))}{all:List (Nat×Nat)}{ds:Ld_}{k:Li_}{cs:Lf_}
set_option maxHeartbeats 1000000 in
theorem O1{Y:Nat}(ae:At E ka 0 [.slice ap all.length Y])(au:AK (rP (rN .u8) (rN .u8)) E ap Y all)(hb:At E kb 0 [iV v.1,iV v.2.1,.slice a1 (v.2.2).length c2])(aE:AK (rP rI (rP rI (rP rI rI))) E a1 c2 (v.2.2))(aF:At E kc 0 [.map (some F.fd)])(aY:F.N=all.length)(aZ:all.length<4611686018427387904)(aG:∀c,c<F.N->Mp fuel v all c=some (!F.bad c))(aH:∀c x,c<F.N->all[c]?=some x->F.bad c=true->∀D o,F.rel D o->∃xs:List ((Nat×Nat)×Bool),Df (rP (rN .u8) (rN .u8)) true rB false E o xs/\∀o',Df (rP (rN .u8) (rN .u8)) true rB false E o' (Cu xs x)->F.rel (λa=>D a∨a=c) o'){lo:Nat}{V:LH}(hle:Le E V)(aI:Ak V H [])
  (aJ:∀L,JL (AF Tryz.prog false) (Stop Tryz.prog F .GM) (baseD 46) Tryz.f46.ntmps L ds k cs (Ae V H []))
  (av:∀c,lo<=c->c<F.N->∀ag,Le E ag->Ak ag H []->JL (AF Tryz.prog false) (Stop Tryz.prog F (.B3 (c+1))) (baseD 46) Tryz.f46.ntmps [(0,.pointer (some F.sA)),(1,.pointer (some F.nA)),(2,.pointer (some ⟨ka,0,none⟩)),(3,.pointer (some ⟨kb,0,none⟩)),(4,.pointer (some F.uA)),(5,.pointer (some ⟨kc,0,none⟩))] ds (.code Jl:: .inLoop Jl:: .inBlock 0::k) cs (Ae ag H [])):
  JL (AF Tryz.prog false) (Stop Tryz.prog F (.B3 lo)) (baseD 46) Tryz.f46.ntmps [(0,.pointer (some F.sA)),(1,.pointer (some F.nA)),(2,.pointer (some ⟨ka,0,none⟩)),(3,.pointer (some ⟨kb,0,none⟩)),(4,.pointer (some F.uA)),(5,.pointer (some ⟨kc,0,none⟩))] ds (.code Jl:: .inLoop Jl:: .inBlock 0::k) cs (Ae V H []):=by
 refine JL.block (JL.seq ?_);refine JL.region (EZ (vs:=[.pointer (some F.nA),.int .i64 1]) rfl rfl rfl Tryz.func48 (by decide+kernel) rfl rfl (d4 rfl) λa2 back=>?_);refine JL.seq (JL.region ?_);refine Ac (v:=.int .i64 0) rfl rfl rfl (λρ h=>Yl.assign (h _ _ rfl)) (JL.done ?_);refine JL.seq (JL.region ?_);refine Ac (v:=.pointer (some F.nA)) rfl rfl rfl (λρ h=>Yl.move (h _ _ rfl)) (Ac (v:=.pointer (some F.nA)) rfl rfl rfl (λρ h=>Yl.nilCheck (h _ _ rfl)) ?_);refine Ac (v:=.pointer (some F.nA)) rfl rfl rfl (λρ h=>Aq (a:=F.nA) 0 0 Tryz.underlying121 (AB Tryz.type2) rfl rfl rfl (h _ _ rfl)) (Ac (v:=.int .i64 1) rfl rfl rfl (λρ h=>Yl.move (h _ _ rfl)) ?_);refine SO (lo:=lo) rfl rfl rfl rfl rfl UW rfl rfl λc aw a3=>Ac (v:=.int .i64 ((c+1:Nat):Int)) rfl rfl rfl (λρ h=>Yl.assign (h _ _ rfl)) (JL.done ?_);refine JL.ret (v:=.int .i64 ((c+1:Nat):Int)) rfl rfl (Ay.list Tryz.func48 rfl (vs:=[.int .i64 ((c+1:Nat):Int)]) ⟨rfl,trivial⟩) (back _ _ _ _ ?_);have aK:AR (((c+1:Nat):Int) - 1)=some (c:Int):=by unfold AR;rw[d5 (by omega)];congr 1;omega
 refine Ac (v:=iV (c:Int)) rfl rfl rfl (λρ h=>BP (h _ _ rfl) (h _ _ rfl) aK) (Ac (v:=iV (c:Int)) rfl rfl rfl (λρ h=>Yl.assign (h _ _ rfl)) ?_);refine JL.done (JL.seq ?_);refine JL.seq (JL.region ?_);refine Ac (v:=iV (c:Int)) rfl rfl rfl (λρ h=>Yl.move (h _ _ rfl)) (Ac (v:=.slice ap all.length Y) rfl rfl rfl (λρ h=>Yl.load JZ (h _ _ rfl) (At.AN (j:=0) (ae.Ag hle) rfl)) ?_);refine Ac (v:=iV (all.length:Int)) rfl rfl rfl (λρ h=>Yl.len rfl Tryz.underlying84 (h _ _ rfl)) (Ac (v:=.bool (decide ((c:Int)>=(all.length:Int)))) rfl rfl rfl (λρ h=>Yl.geq (h _ _ rfl) (h _ _ rfl)) ?_);refine JL.done (AU (p:=(c:Int)>=(all.length:Int)) rfl (λaL=>?_) (λaL=>?_))
 .have aa:F.tk c=.GM:=by unfold Fam.tk;rw[d7 (by omega)]
  rw[aa];exact JL.exit rfl (aJ _)
 .have Z:c<F.N:=by omega
  refine JL.skip ?_;have ah:F.bad c= !(!F.bad c):=by simp
  have ai:=aG c Z;generalize (!F.bad c)=a4 at ai ah;unfold Mp at ai;refine JL.seq ?_;refine JL.seq ?_;refine(λ(ay:At V ka 0 [.slice ap all.length Y]) (az:AK (rP (rN .u8) (rN .u8)) V ap Y all) (aM:At V kb 0 [iV v.1,iV v.2.1,.slice a1 (v.2.2).length c2]) (aN:AK (rP rI (rP rI (rP rI rI))) V a1 c2 (v.2.2))=>?_) (ae.Ag hle) (au.Ag hle) (hb.Ag hle) (aE.Ag hle);refine DJ 11 mixed rfl (by decide+kernel) λO=>?_;refine JG.val (v:=.agg #[iV v.1,iV v.2.1,.slice a1 (v.2.2).length c2]) 0 rfl O (by decide+kernel) rfl rfl rfl (λρ h s' K=>Bm (vs:=[iV v.1,iV v.2.1,.slice a1 (v.2.2).length c2]) HR GW (h _ _ rfl) (At.H5 aM K)) ?_;refine JG.val (v:=.slice ap (all).length Y) 1 rfl O (by decide+kernel) rfl rfl rfl (λρ h s' K=>Yl.load JZ (h _ _ rfl) (At.BS (j:=0) ay K rfl)) ?_;refine JG.val (v:=iV (c:Int)) 2 rfl O (by decide+kernel) rfl rfl rfl (λρ h s' K=>Yl.move (h _ _ rfl)) ?_;let⟨U,aj,aO⟩:=bind_some ai;refine G2 3 az aj rfl O (by decide+kernel) rfl rfl rfl rfl rfl Tryz.underlying84 Cq ?_;rintro aP aQ _ ⟨_,_,rfl,rfl,rfl⟩ ak;replace ak:At V aP aQ [.int .u8 ((U.1:Nat):Int),.int .u8 ((U.2:Nat):Int)]:=ak;refine JG.val (v:=.agg #[.int .u8 ((U.1:Nat):Int),.int .u8 ((U.2:Nat):Int)]) 4 rfl O (by decide+kernel) rfl rfl rfl (λρ h s' K=>Bm (vs:=[.int .u8 ((U.1:Nat):Int),.int .u8 ((U.2:Nat):Int)]) F4 Cq (h _ _ rfl) (At.H5 ak K)) ?_;refine JG.val (v:=.slice ap (all).length Y) 6 rfl O (by decide+kernel) rfl rfl rfl (λρ h s' K=>Yl.load JZ (h _ _ rfl) (At.BS (j:=0) ay K rfl)) ?_;refine JG.val (v:=iV (c:Int)) 7 rfl O (by decide+kernel) rfl rfl rfl (λρ h s' K=>Yl.move (h _ _ rfl)) ?_;let⟨ab,aR,aS⟩:=bind_some aO;refine G2 8 az aR rfl O (by decide+kernel) rfl rfl rfl rfl rfl Tryz.underlying84 Cq ?_;rintro al am _ ⟨_,_,rfl,rfl,rfl⟩ an;replace an:At V al am [.int .u8 ((ab.1:Nat):Int),.int .u8 ((ab.2:Nat):Int)]:=an;refine JG.val (v:=.pointer (some ⟨al,am,none⟩)) 9 rfl O (by decide+kernel) rfl rfl rfl (λρ h s' K=>Aq (a:=⟨al,am,none⟩) 0 0 Tryz.underlying89 DU rfl rfl rfl (h _ _ rfl)) ?_;refine JG.val (v:=.int .u8 ((ab.1:Nat):Int)) 10 rfl O (by decide+kernel) rfl rfl rfl (λρ h s' K=>Yl.load Eu (h _ _ rfl) (At.BS (j:=0) an K rfl)) ?_;let⟨aA,aT,aU⟩:=bind_some aS;refine JG.call (i:=5) (vs:=[.agg #[iV v.1,iV v.2.1,.slice a1 (v.2.2).length c2],.agg #[.int .u8 ((U.1:Nat):Int),.int .u8 ((U.2:Nat):Int)]]) (Uu aN aT) (by decide+kernel) rfl rfl rfl (A4 Tryz.func49 rfl) rfl aI ?_;rintro _ a5 _ ac ⟨rfl,rfl⟩ aB;refine AL.leaf (tail:=[11]) (by decide+kernel) (λt=>Bb (by decide+kernel) Cn t) ?_;refine Ac (v:=.bool (decide ((((aA):Nat):Int)=(((ab.1):Nat):Int)))) rfl rfl rfl (λρ h=>Yl.eql (h _ _ rfl) (h _ _ rfl)) ?_;refine JL.done ?_;have aC:=d0 aU;refine AU (p:=(((aA):Nat):Int)=(((ab.1):Nat):Int)) rfl (λao=>?_) (λao=>?_)
  .have aV:F.bad c=false:=by rw[ah,← aC,k8 ao];rfl
   have aa:F.tk c=.B3 (c+1):=by unfold Fam.tk;rw[d5 Z,aV];rfl
   rw[aa];refine JL.exit rfl (JL.again ?_);refine Ap (L':=[(0,.pointer (some F.sA)),(1,.pointer (some F.nA)),(2,.pointer (some ⟨ka,0,none⟩)),(3,.pointer (some ⟨kb,0,none⟩)),(4,.pointer (some F.uA)),(5,.pointer (some ⟨kc,0,none⟩))]) ⟨rfl,rfl,rfl,rfl,rfl,rfl,trivial⟩ (EJ (S':=[]) (by simp) aB λaq=>?_);exact av c aw Z _ (hle.trans ac) aq
  .have aD:F.bad c=true:=by rw[ah,← aC,kZ ao];rfl
   have aa:F.tk c=.lk c .Ff:=by unfold Fam.tk;rw[d5 Z,d5 aD]
   rw[aa];refine JL.skip (JL.seq ?_);refine JL.region (Sd (kk:=c) rfl rfl rfl rfl rfl ?_);refine JL.done (JL.seq ?_);refine EJ (S':=[]) (by simp) aB λaq=>DJ 5 mixed rfl (by decide+kernel) λO=>JG.val (v:=.map (some F.fd)) 0 rfl O (by decide+kernel) rfl rfl rfl (λρ h s' K=>Yl.load M1 (h _ _ rfl) (At.BS (j:=0) (aF.Ag (hle.trans ac)) K rfl)) (JG.val (v:=.slice ap (all).length Y) 1 rfl O (by decide+kernel) rfl rfl rfl (λρ h s' K=>Yl.load JZ (h _ _ rfl) (At.BS (j:=0) (ae.Ag (hle.trans ac)) K rfl)) ?_);refine JG.val (v:=iV (c:Int)) 2 rfl O (by decide+kernel) rfl rfl rfl (λρ h s' K=>Yl.move (h _ _ rfl)) (G2 3 (au.Ag (hle.trans ac)) aj rfl O (by decide+kernel) rfl rfl rfl rfl rfl Tryz.underlying84 Cq ?_);rintro aW aX _ ⟨_,_,rfl,rfl,rfl⟩ ar;replace ar:At _ aW aX [.int .u8 ((U.1:Nat):Int),.int .u8 ((U.2:Nat):Int)]:=ar;refine JG.val (v:=.agg #[.int .u8 ((U.1:Nat):Int),.int .u8 ((U.2:Nat):Int)]) 4 rfl O (by decide+kernel) rfl rfl rfl (λρ h s' K=>Bm (vs:=[.int .u8 ((U.1:Nat):Int),.int .u8 ((U.2:Nat):Int)]) F4 Cq (h _ _ rfl) (At.H5 ar K)) (AL.leaf (tail:=[5]) (by decide+kernel) (λt=>Bb (by decide+kernel) Cn t) ?_);refine Ts (kk:=c) (pk:=(rP (rN .u8) (rN .u8))) (ka:=true) (pv:=rB) (va:=false) (E:=E) Qq Tryz.underlying113 ⟨_,⟨_,_,rfl,rfl,rfl⟩,rfl⟩ (aH c U Z (by rw[← U2 aj]) aD) rfl rfl rfl rfl rfl rfl rfl (JL.done ?_);refine JL.region (RH (kk:=c) rfl rfl rfl rfl rfl ?_);refine JL.done (Bv ?_);refine JL.again (Ap (L':=[(0,.pointer (some F.sA)),(1,.pointer (some F.nA)),(2,.pointer (some ⟨ka,0,none⟩)),(3,.pointer (some ⟨kb,0,none⟩)),(4,.pointer (some F.uA)),(5,.pointer (some ⟨kc,0,none⟩))]) ⟨rfl,rfl,rfl,rfl,rfl,rfl,trivial⟩ ?_);exact av c aw Z _ (hle.trans ac) aq
set_option maxHeartbeats 1000000 in
theorem Uv{U:Nat}(V:At E ka 0 [.slice ap all.length U])(Y:AK (rP (rN .u8) (rN .u8)) E ap U all)(hb:At E kb 0 [iV v.1,iV v.2.1,.slice a1 (v.2.2).length c2])(Z:AK (rP rI (rP rI (rP rI rI))) E a1 c2 (v.2.2))(aa:At E kc 0 [.map (some F.fd)])(ab:F.N=all.length)(ac:all.length<4611686018427387904)(ae:∀c,c<F.N->Mp fuel v all c=some (!F.bad c))(ag:∀c x,c<F.N->all[c]?=some x->F.bad c=true->∀D o,F.rel D o->∃xs:List ((Nat×Nat)×Bool),Df (rP (rN .u8) (rN .u8)) true rB false E o xs/\∀o',Df (rP (rN .u8) (rN .u8)) true rB false E o' (Cu xs x)->F.rel (λa=>D a∨a=c) o'):
  Way Tryz.prog false (Stop Tryz.prog F (F.start 0)) (born Tryz.prog ⟨.fn (.func 46) [.pointer (some F.sA),.pointer (some F.nA),.pointer (some ⟨ka,0,none⟩),.pointer (some ⟨kb,0,none⟩),.pointer (some F.uA),.pointer (some ⟨kc,0,none⟩)].toArray,#[]⟩) ⟨E,λ_=>none,false⟩:=by
 refine S9 (fn:=Tryz.f46) (vs:=[.pointer (some F.sA),.pointer (some F.nA),.pointer (some ⟨ka,0,none⟩),.pointer (some ⟨kb,0,none⟩),.pointer (some F.uA),.pointer (some ⟨kc,0,none⟩)]) Tryz.func46 (by decide+kernel) rfl (by simp) (d4 rfl) ?_;obtain⟨H,ah⟩:∃H:LH,H=λ_=>none:=⟨_,rfl⟩;rw[← ah];have K:Ak E H []:=trivial;refine(?_:JL (AF Tryz.prog false) (Stop Tryz.prog F (.B3 0)) (baseD 46) Tryz.f46.ntmps [(0,.pointer (some F.sA)),(1,.pointer (some F.nA)),(2,.pointer (some ⟨ka,0,none⟩)),(3,.pointer (some ⟨kb,0,none⟩)),(4,.pointer (some F.uA)),(5,.pointer (some ⟨kc,0,none⟩))] [] [.code _] [IH Tryz.prog] (Ae E H []));refine JL.scope (JL.seq ?_);refine JL.region (JL.defer (vs:=[.pointer (some F.sA)]) rfl rfl rfl rfl rfl ?_);refine JL.done (JL.seq ?_);refine JL.label (JL.block ?_);refine HV (Ap (L':=[(0,.pointer (some F.sA)),(1,.pointer (some F.nA)),(2,.pointer (some ⟨ka,0,none⟩)),(3,.pointer (some ⟨kb,0,none⟩)),(4,.pointer (some F.uA)),(5,.pointer (some ⟨kc,0,none⟩))]) ⟨rfl,rfl,rfl,rfl,rfl,rfl,trivial⟩ ?_);have key:∀m lo,F.N - lo<=m->∀O,Le E O->Ak O H []->JL (AF Tryz.prog false) (Stop Tryz.prog F (.B3 lo)) (baseD 46) Tryz.f46.ntmps [(0,.pointer (some F.sA)),(1,.pointer (some F.nA)),(2,.pointer (some ⟨ka,0,none⟩)),(3,.pointer (some ⟨kb,0,none⟩)),(4,.pointer (some F.uA)),(5,.pointer (some ⟨kc,0,none⟩))] [dcall 47 #[.pointer (some F.sA)]] (.code Jl:: .inLoop Jl:: .inBlock 0:: [.inScope VZ]) [IH Tryz.prog] (Ae O H []):=by
  intro m
  induction m with
  | zero=>exact λlo hm O hle K=>O1 V Y hb Z aa ab ac ae ag hle K (λL=>Nh (JL.out rfl (JO.QI Tryz.Ib rfl rfl (JO.leaveD rfl Tryz.func46 rfl (.inr rfl) OX)))) λc h1 ai=>by omega
  | succ m aj=>exact λlo hm O hle K=>O1 V Y hb Z aa ab ac ae ag hle K (λL=>Nh (JL.out rfl (JO.QI Tryz.Ib rfl rfl (JO.leaveD rfl Tryz.func46 rfl (.inr rfl) OX)))) λc h1 ai ak al am=>aj (c+1) (by omega) ak al am
 exact key _ 0 (kG _) E (Le.refl _) K
variable{J:Judge Tryz.prog}
theorem Ua:Ax J 44 [.agg #[iV v.1,iV v.2.1,.slice a1 (v.2.2).length c2]] E [] (λw E' B'=>∃k,w=.func (.func 57) #[] [.pointer (some ⟨k,0,none⟩)].toArray/\B'=[]/\At E' k 0 [iV v.1,iV v.2.1,.slice a1 (v.2.2).length c2]):=by
 refine Ax.enter Tryz.func44 rfl (d4 rfl) λQ ab cs H O U=>JL.seq (JL.region ?_);refine JS.box (v:=.agg #[iV v.1,iV v.2.1,.slice a1 (v.2.2).length c2]) rfl rfl rfl O rfl λr2 V=>A8 1 V rfl λY Z K aa=>?_;replace K:At Y r2 0 [iV v.1,iV v.2.1,.slice a1 (v.2.2).length c2]:=K;refine Ac (v:=.nilFunc) rfl rfl rfl (λρ h=>Yl.assign (h _ _ rfl)) (JL.done ?_);refine JL.seq (JL.region ?_);refine Ac (v:=.func (.func 57) #[] ([.pointer (some ⟨r2,0,none⟩)]:Lv_).toArray) rfl rfl rfl (λρ h=>Lx (by simp) (by simp[h (.tmp 1) _ rfl])) (Ac (v:=.func (.func 57) #[] ([.pointer (some ⟨r2,0,none⟩)]:Lv_).toArray) rfl rfl rfl (λρ h=>Yl.assign (h _ _ rfl)) ?_);refine JL.done (JL.ret (v:=.func (.func 57) #[] ([.pointer (some ⟨r2,0,none⟩)]:Lv_).toArray) rfl rfl (Ay.list Tryz.func44 rfl (vs:=[.func (.func 57) #[] ([.pointer (some ⟨r2,0,none⟩)]:Lv_).toArray]) ⟨rfl,trivial⟩) ?_);exact U _ _ _ _ Z rfl ⟨r2,rfl,by simp,K⟩ aa
theorem UU{a:Option Addr}{g:Seg}{pb pf:Int}{wv:Value}{p0:List (Nat×Nat)}(O:OL 89 (rP (rN .u8) (rN .u8)) E a c g p0)(U:p0≠ []){r:List (Nat×Nat)}(V:Hy fuel p0 pb=some r):
  Ax J 53 [.slice a p0.length c,.func (.func 54) #[.agg #[iV pb,iV pf,wv]] #[]] E g (λw E' B'=>w=.tuple #[]/\OL 89 (rP (rN .u8) (rN .u8)) E' a c B' r/\r.length=p0.length):=by
 rcases O.cases with⟨rfl,rfl,rfl,rfl⟩ | ⟨bk,f,rfl,rfl,hW⟩;exact absurd rfl U;refine(Ug hW V).Ag ?_;rintro w E' B' hle ⟨Y,h1,rfl,K⟩;exact⟨h1,K.1,K.2⟩
def Mj:Nat->Code->Option Code
 | n,.block m a=>if n=m then Ju a else Mj n a
 | n,.seq a b=>(Mj n a).orElse λ_=>Mj n b
 | _,_=>none
noncomputable def IG:Code:=match(Tryz.f39.body).bind (Mj 2) with | some c=>c | none=>.skip
set_option maxHeartbeats 1000000 in
theorem Mg(U:F.n=4)(V:Ak E H [])
  (K:Way Tryz.prog false (Stop Tryz.prog F (F.start 0)) (born Tryz.prog ⟨.fn (.func 46) [.pointer (some F.sA),.pointer (some F.nA),.pointer (some ⟨ka,0,none⟩),.pointer (some ⟨kb,0,none⟩),.pointer (some F.uA),.pointer (some ⟨kc,0,none⟩)].toArray,#[]⟩) ⟨E,λ_=>none,false⟩)
  {j:Nat}(Y:j<4)
  (h:JL (AF Tryz.prog true) (Stop Tryz.prog F (F.Cw j)) (base 39) Tryz.f39.ntmps [(1,.pointer (some ⟨kb,0,none⟩)),(3,.pointer (some ⟨ka,0,none⟩)),(4,.pointer (some ⟨kc,0,none⟩)),(6,.pointer (some F.nA)),(7,.pointer (some F.uA)),(8,.pointer (some F.sA)),(21,iV ((j+1:Nat):Int))] ds (.inLoop IG::k) cs (Ae E H [])):
  JL (AF Tryz.prog true) (Stop Tryz.prog F (.El j)) (base 39) Tryz.f39.ntmps [(1,.pointer (some ⟨kb,0,none⟩)),(3,.pointer (some ⟨ka,0,none⟩)),(4,.pointer (some ⟨kc,0,none⟩)),(6,.pointer (some F.nA)),(7,.pointer (some F.uA)),(8,.pointer (some F.sA)),(21,iV ((j:Nat):Int))] ds (.code IG:: .inLoop IG::k) cs (Ae E H []):=by
 refine JL.seq (JL.region ?_);refine Ac (v:=.bool true) rfl rfl rfl (λρ h=>Yl.to (Yl.lss (h _ _ rfl) (h _ _ rfl)) (by rw[k8 (show((j:Nat):Int)<4 by omega)])) ?_;refine JL.done (JL.seq ?_);refine Nq rfl (JL.skip ?_);refine JL.seq (JL.block ?_);refine JL.seq (JL.region ?_);refine S2 Tryz.Ib rfl rfl rfl rfl rfl rfl (JL.done ?_);refine JL.region (Ac (v:=.func (.func 46) #[] ([.pointer (some F.sA),.pointer (some F.nA),.pointer (some ⟨ka,0,none⟩),.pointer (some ⟨kb,0,none⟩),.pointer (some F.uA),.pointer (some ⟨kc,0,none⟩)]:Lv_).toArray) rfl rfl rfl (λρ h=>Lx (by simp) (by simp[h (.tmp 8) _ rfl,h (.tmp 6) _ rfl,h (.tmp 3) _ rfl,h (.tmp 1) _ rfl,h (.tmp 7) _ rfl,h (.tmp 4) _ rfl])) ?_);refine WI (fi:=#[]) rfl rfl rfl rfl rfl rfl rfl (by first | exact K | (simp only[List.append_toArray,lh,mD,Array.empty_append];exact K)) ?_
 refine JL.done (Bv ?_);refine JL.region ?_;have O:AR (((j:Nat):Int)+1)=some (((j+1:Nat)):Int):=by unfold AR;rw[d5 (by omega)];simp
 refine Ac (v:=iV ((j+1:Nat):Int)) rfl rfl rfl (λρ h=>BH (h _ _ rfl) (h _ _ rfl) O) (Ac (v:=iV ((j+1:Nat):Int)) rfl rfl rfl (λρ h=>Yl.move (h _ _ rfl)) ?_);refine JL.done (Ap ?_ h);exact⟨rfl,rfl,rfl,rfl,rfl,rfl,rfl,trivial⟩
theorem SE(K:F.n=4)(O:Ak E H [])
  (U:Way Tryz.prog false (Stop Tryz.prog F (F.start 0)) (born Tryz.prog ⟨.fn (.func 46) [.pointer (some F.sA),.pointer (some F.nA),.pointer (some ⟨ka,0,none⟩),.pointer (some ⟨kb,0,none⟩),.pointer (some F.uA),.pointer (some ⟨kc,0,none⟩)].toArray,#[]⟩) ⟨E,λ_=>none,false⟩)
  (h:JL (AF Tryz.prog true) (Stop Tryz.prog F .Co) (base 39) Tryz.f39.ntmps [(1,.pointer (some ⟨kb,0,none⟩)),(3,.pointer (some ⟨ka,0,none⟩)),(4,.pointer (some ⟨kc,0,none⟩)),(6,.pointer (some F.nA)),(7,.pointer (some F.uA)),(8,.pointer (some F.sA)),(21,iV 4)] ds (.code IG:: .inLoop IG::k) cs (Ae E H [])):
  JL (AF Tryz.prog true) (Stop Tryz.prog F (.El 0)) (base 39) Tryz.f39.ntmps [(1,.pointer (some ⟨kb,0,none⟩)),(3,.pointer (some ⟨ka,0,none⟩)),(4,.pointer (some ⟨kc,0,none⟩)),(6,.pointer (some F.nA)),(7,.pointer (some F.uA)),(8,.pointer (some F.sA)),(21,iV 0)] ds (.code IG:: .inLoop IG::k) cs (Ae E H []):=by
 have V:F.Cw 0=.El 1:=by unfold Fam.Cw;rw[d7 (by omega)]
 have Y:F.Cw 1=.El 2:=by unfold Fam.Cw;rw[d7 (by omega)]
 have e2:F.Cw 2=.El 3:=by unfold Fam.Cw;rw[d7 (by omega)]
 have Z:F.Cw 3=.Co:=by unfold Fam.Cw;rw[d5 (by omega)]
 refine Mg (j:=0) K O U (by omega) (JL.again ?_);rw[V];refine Mg (j:=1) K O U (by omega) (JL.again ?_);rw[Y];refine Mg (j:=2) K O U (by omega) (JL.again ?_);rw[e2];refine Mg (j:=3) K O U (by omega) (JL.again ?_);rw[Z];exact h
theorem IZ{P:Program}{J:Judge P}{Q:Gs_}{g:Goroutine}{S:List Seg}(K:Ak E H S)(h:Ak E H []->J.ok Q g (Ae E H [])):J.ok Q g (Ae E H S):=
 NV (S':=[S.flatten]) (by simp) K λO=>F9 0 O V λU=>NV (S':=[]) V U h
def Oy:Obj->TypeId
 | .cells _ t _=>t
 | _=>0
variable{m:List ((Nat×Nat)×Bool)}{x y:(Nat×Nat)}
theorem SX{b:Bool}:x∈(Ej m y b).map (·.1)↔x=y∨x∈m.map (·.1):=by
 induction m with
 | nil=>simp[Ej]
 | cons z m K=>
  unfold Ej;by_cases e:y=z.1;rw[d5 e];simp[e];rw[d7 e,lG,f7,K,lG,f7];constructor;rintro(h | h | h);exact .inr (.inl h);exact .inl h;exact .inr (.inr h);rintro(h | h | h);exact .inr (.inl h);exact .inl h;exact .inr (.inr h)
theorem S3{ac:List (Nat×Nat)}:x∈(Ii ac).map (·.1)↔x∈ac:=by
 unfold Ii;have key:∀(ac:List (Nat×Nat)) (m:List ((Nat×Nat)×Bool)),x∈(ac.foldl (λm w=>Ej m w true) m).map (·.1)↔x∈ac∨x∈m.map (·.1):=by
  intro ac
  induction ac with
  | nil=>intro m;simp
  | cons y ac K=>
   intro m;rw[mg,K,SX,f7];constructor;rintro(h | h | h);exact .inl (.inr h);exact .inl (.inl h);exact .inr h;rintro((h | h) | h);exact .inr (.inl h);exact .inl h;exact .inr (.inr h)
 rw[key];simp
theorem Sv:x∈(Cu m y).map (·.1)↔x∈m.map (·.1)/\x≠y:=by
 unfold Cu;simp only[k3,kY,k9];constructor;rintro⟨z,⟨h1,K⟩,rfl⟩;exact⟨⟨z,h1,V⟩,λe=>K e.symm⟩;rintro⟨⟨z,h1,rfl⟩,K⟩;exact⟨z,⟨h1,λe=>K e.symm⟩,V⟩
variable{d:Nat×Obj}
theorem Xx{r m l:Nat×Obj}:([[r],[m]]++ [[d]]++ [[l]]:List Seg).flatten.Perm ([l::([r]++([]++ [m])),[d]]:List Seg).flatten:=by
 simp only[lj,lh,kT,mv,k2];exact kK (l₁:=[r,m,d]) (l₂:=[l])
theorem Xp{b n m w:Nat×Obj}:([[b],[d],[n],[m],[w]]:List Seg).flatten.Perm ([[w],[m],[n],[b],[d]]:List Seg).flatten:=by
 simp only[lj,lh,kT,mv,k2];exact(List.reverse_perm [b,d,n,m,w]).symm.trans (((List.Perm.swap b d []).cons n).cons m |>.cons w)
structure Xw where
 E:LH
 seen:Array Nat
 done:List ((Nat×Nat)×Bool)
 a:Option Addr
 c:Nat
 g:Seg
set_option maxHeartbeats 4000000 in
theorem Tz(ae:AK (rP rI (rP rI (rP rI rI))) E a1 c2 (v.2.2))(bo:HC fuel v []=some all)(aZ:all.Nodup)(cT:all.length<=1000){good:(Nat×Nat)->Bool}(bp:∀x∈all,∃g,GD fuel v x=some g/\good x=decide (g=x.1))(bq:∃x∈all,good x=true)(br:∀l:List (Nat×Nat),l.Perm (all.filter good)->∃r,Hy fuel l v.1=some r/\r.Perm l):
  Ax (Dv Tryz.prog) 39 [.agg #[iV v.1,iV v.2.1,.slice a1 (v.2.2).length c2]] E [] (λw E' B'=>∃(a0:Option Addr) (a2:Nat) (r:List (Nat×Nat)),w=.slice a0 r.length a2/\B'=[]/\AK (rP (rN .u8) (rN .u8)) E' a0 a2 r/\r.Perm (all.filter good)):=by
 refine Ax.enter Tryz.func39 rfl (d4 rfl) λQ bu cs H bv aF=>JL.seq (JL.region ?_);refine JS.box (v:=.agg #[iV v.1,iV v.2.1,.slice a1 (v.2.2).length c2]) rfl rfl rfl bv rfl λr1 bw=>Ac (v:=.slice none 0 0) rfl rfl rfl (λρ h=>Yl.assign (h _ _ rfl)) (JL.done ?_);refine JL.seq (A8 1 bw rfl λbx a3 au aG=>?_);replace au:At bx r1 0 [iV v.1,iV v.2.1,.slice a1 (v.2.2).length c2]:=au;refine JL.region (JS.alloc rfl rfl rfl aG (Cm Tryz.type84) λaa al=>?_);refine AT (S':=[[],[],[(aa,.cells #[.slice none 0 0] 84 (0,0))]]) rfl al λaH=>JL.done (JL.seq ?_);refine JL.region (JS.makeMap rfl rfl rfl aH λK aI=>?_);refine JS.alloc rfl rfl rfl aI (Cm Tryz.type113) λaj av=>JS.store (v:=.map (some K)) (off:=0) 4 rfl rfl rfl av rfl rfl (AB Tryz.type113) (by simp[Value.cells,A3]) rfl (d4 rfl) λbz=>AT (S':=[[],[],[(aa,.cells #[.slice none 0 0] 84 (0,0))],[(K,(.map #[] 0))],[(aj,.cells #[.map (some K)] 113 (0,0))]]) rfl bz λbA=>JL.done (JL.seq ?_);refine JL.seq (A8 4 bA rfl λbB aw aJ am=>?_);replace aJ:At bB aj 0 [.map (some K)]:=aJ;refine JL.region (Ac (v:=.agg #[iV v.1,iV v.2.1,.slice a1 (v.2.2).length c2]) rfl rfl rfl (λρ h=>Bm (vs:=[iV v.1,iV v.2.1,.slice a1 (v.2.2).length c2]) HR GW (h _ _ rfl) (At.Cl (au.Ag aw))) ?_);refine JS.call (vs:=[.agg #[iV v.1,iV v.2.1,.slice a1 (v.2.2).length c2]]) Ua rfl rfl rfl (A4 Tryz.func44 rfl) rfl am ?_;rintro _ cV _ ay ⟨aK,rfl,rfl,bC⟩ an;refine AT (S':=[[],[],[(aa,.cells #[.slice none 0 0] 84 (0,0))],[(K,(.map #[] 0))],[],[]]) rfl an λbD=>JL.done (JL.block ?_);refine Ap (L':=[(1,.pointer (some ⟨r1,0,none⟩)),(3,.pointer (some ⟨aa,0,none⟩)),(4,.pointer (some ⟨aj,0,none⟩)),(13,.func (.func 57) #[] ([.pointer (some ⟨aK,0,none⟩)]:Lv_).toArray)]) ⟨rfl,rfl,rfl,rfl,trivial⟩ (EJ (S':=[[(aa,.cells #[.slice none 0 0] 84 (0,0))],[(K,.map #[] 0)]]) (by simp[Value.cells]) bD λbE=>?_);refine JL.rangeFunc (caps:=[.pointer (some ⟨aK,0,none⟩)]) rfl (by intro e;cases e) rfl (A4 Tryz.func57 rfl) bE λO l T a4 bF=>P7 (S':=[(l,.loop ⟨.ready,none,39,T,#[14],Hs,Hr,O⟩)::([(aa,.cells #[.slice none 0 0] 84 (0,0))]++([]++ [(K,.map #[] 0)])),[(O,.deferred (some []))]]) Xx bF λaL=>?_;have bG:=Vv (J:=Dv Tryz.prog) (I:=IV l aa K aj O T) (ly:=l) IV.Ag (λaM bH=>UA (a4.sub ⟨rfl,rfl,trivial⟩) aM bH) bC (ae.Ag ((a3.trans aw).trans ay)) (X1:=(l,.loop ⟨.ready,none,39,T,#[14],Hs,Hr,O⟩)::([(aa,.cells #[.slice none 0 0] 84 (0,0))]++([]++ [(K,.map #[] 0)]))) (b1:=[]) ⟨none,0,[],_,rfl,OL.nil,Df.nil,(aJ.Ag ay)⟩ bo;refine S8 (vs:=[.func (.yield l) #[] #[],.pointer (some ⟨aK,0,none⟩)]) 0 bG aL rfl ?_;rintro _ cW _ a5 ⟨_,rfl,rfl,a,c,g,Z,rfl,bI,bJ,bK⟩ bL;refine NV (S':=[[(l,.loop ⟨.ready,none,39,T,#[14],Hs,Hr,O⟩)],[(aa,.cells #[.slice a all.length c] 84 (0,0))],g,[(K,Z)],[(O,.deferred (some []))]]) (by simp) bL λaG=>RA 0 aG rfl rfl rfl λbM=>?_;refine(?_:JL (Dv Tryz.prog) Q (base 39) Tryz.f39.ntmps [(1,.pointer (some ⟨r1,0,none⟩)),(3,.pointer (some ⟨aa,0,none⟩)),(4,.pointer (some ⟨aj,0,none⟩))] [⟨.collected O,#[]⟩] _ (bu::cs) _) T (a4.sub ⟨rfl,rfl,rfl,trivial⟩);refine Bv (JS.drop 0 bM rfl λal=>?_);refine CP 2 bI al rfl λcX az aN bN=>A8 1 bN rfl λY ao aO aH=>?_;replace aO:At Y aa 0 [.slice a all.length c]:=aO;replace aN:=aN.Ag ao;have a6:=((((a3.trans aw).trans ay).trans a5).trans az).trans ao;have a7:=au.Ag (((aw.trans ay).trans a5).trans (az.trans ao));have a8:=bK.Ag (az.trans ao);refine JL.seq (JL.region ?_);refine JS.alloc rfl rfl rfl aH (Cm Tryz.type121) λnx bO=>JL.done (JL.seq ?_);refine JL.region (JS.alloc rfl rfl rfl bO (Cm Tryz.type127) λmu aI=>?_);refine JL.done (JL.seq ?_);refine JL.region (JS.alloc rfl rfl rfl aI (Cm Tryz.type131) λwg bP=>?_);refine JL.done (EJ (S':=[[(K,Z)],[(O,.deferred (some []))],[(nx,.cells #[.int .i64 0] 121 (0,0))],[(mu,.cells #[.int .i32 0,.int .u32 0] 127 (0,0))],[(wg,.cells #[.int .u64 0,.int .u32 0] 131 (0,0))]]) (by simp[Value.cells]) bP λbQ=>?_);refine JS.perm (S':=[[(wg,.cells #[.int .u64 0,.int .u32 0] 131 (0,0))],[(mu,.cells #[.int .i32 0,.int .u32 0] 127 (0,0))],[(nx,.cells #[.int .i64 0] 121 (0,0))],[(K,Z)],[(O,.deferred (some []))]]) Xp bQ λav=>JL.seq (JL.seq ?_);refine JL.region (Ac (v:=iV 0) rfl rfl rfl (λρ h=>Yl.move (h _ _ rfl)) ?_);refine JL.done (JL.block ?_);refine HV (Ap (L':=[(1,.pointer (some ⟨r1,0,none⟩)),(3,.pointer (some ⟨aa,0,none⟩)),(4,.pointer (some ⟨aj,0,none⟩)),(6,.pointer (some (⟨nx,0,none⟩:Addr))),(7,.pointer (some (⟨mu,0,none⟩:Addr))),(8,.pointer (some (⟨wg,0,none⟩:Addr))),(21,iV 0)]) ⟨rfl,rfl,rfl,rfl,rfl,rfl,rfl,trivial⟩ ?_);intro bR bS;obtain⟨ac,aA⟩:∃ac,ac=AS [(O,.deferred (some []))] H:=⟨_,rfl⟩;have bT:Ae Y H [[(wg,.cells #[.int .u64 0,.int .u32 0] 131 (0,0))],[(mu,.cells #[.int .i32 0,.int .u32 0] 127 (0,0))],[(nx,.cells #[.int .i64 0] 121 (0,0))],[(K,Z)],[(O,.deferred (some []))]]=Ae Y ac [[(wg,.cells #[.int .u64 0,.int .u32 0] 131 (0,0))],[(mu,.cells #[.int .i32 0,.int .u32 0] 127 (0,0))],[(nx,.cells #[.int .i64 0] 121 (0,0))],[(K,Z)]]:=by
  rw[aA];show mk Y H ([(wg,.cells #[.int .u64 0,.int .u32 0] 131 (0,0)),(mu,.cells #[.int .i32 0,.int .u32 0] 127 (0,0)),(nx,.cells #[.int .i64 0] 121 (0,0)),(K,Z)]++ [(O,.deferred (some []))])=mk Y (AS [(O,.deferred (some []))] H) [(wg,.cells #[.int .u64 0,.int .u32 0] 131 (0,0)),(mu,.cells #[.int .i32 0,.int .u32 0] 127 (0,0)),(nx,.cells #[.int .i64 0] 121 (0,0)),(K,Z)];unfold mk;rw[EI]
 have ap:Ak Y ac [[(wg,.cells #[.int .u64 0,.int .u32 0] 131 (0,0))],[(mu,.cells #[.int .i32 0,.int .u32 0] 127 (0,0))],[(nx,.cells #[.int .i64 0] 121 (0,0))],[(K,Z)]]:=by rw[aA];exact Nd.front (show Nd Y H ([(wg,.cells #[.int .u64 0,.int .u32 0] 131 (0,0)),(mu,.cells #[.int .i32 0,.int .u32 0] 127 (0,0)),(nx,.cells #[.int .i64 0] 121 (0,0)),(K,Z)]++ [(O,.deferred (some []))]) from av)
 have aP:=Nd.iff.1 av;have a9:=aP.1;simp only[kT,mv,k2,lj,lh,lG,List.map_nil,mx,f7,kB,not_or,k5,not_false_eq_true,and_true,List.nodup_nil] at a9;obtain⟨⟨n1,bU,bV,cY⟩,⟨bW,bX,cZ⟩,⟨bY,c0⟩,bZ⟩:=a9;rw[bT];obtain⟨ak,aB⟩:∃ak,ak=Y:=⟨_,rfl⟩;let F:Fam:=⟨wg,mu,K,nx,Oy (.cells #[] 131 (0,0)),Oy (.cells #[] 127 (0,0)),Oy (.cells #[] 121 (0,0)),4,all.length,λi=>match all[i]? with | some x=> !good x | none=>false,λD o=>∃xs:List ((Nat×Nat)×Bool),Df (rP (rN .u8) (rN .u8)) true rB false ak o xs/\∀x,x∈xs.map (·.1)↔∃i,all[i]?=some x/\¬D i,λg s=>(Dv Tryz.prog).ok Q g s⟩
 have c3:F.rel=(λD o=>∃xs:List ((Nat×Nat)×Bool),Df (rP (rN .u8) (rN .u8)) true rB false ak o xs/\∀x,x∈xs.map (·.1)↔∃i,all[i]?=some x/\¬D i:(Nat->Prop)->Obj->Prop):=rfl;refine Up F (f₀:=Z) (show 1<=4 by omega) (show 4<134217728 by omega) (show all.length<2305843009213693952 by omega) (λe=>n1 e.symm) (λe=>bV e.symm) (λe=>bX e.symm) (λe=>bU e.symm) (λe=>bW e.symm) (λe=>bY e.symm) (Il (j:=0) ap rfl) (Il (j:=1) ap rfl) (Il (j:=2) ap rfl) (Il (j:=3) ap rfl) ⟨Ii all,by rw[aB];exact bJ.Ag (az.trans ao),λx=>by rw[S3];simp[kQ]⟩ ?_ (λg s h=>h);have b2:=RS ap;show Way Tryz.prog true (Stop Tryz.prog F (.El 0)) _ (⟨(Ae Y ac [[(wg,.cells #[.int .u64 0,.int .u32 0] 131 (0,0))],[(mu,.cells #[.int .i32 0,.int .u32 0] 127 (0,0))],[(nx,.cells #[.int .i64 0] 121 (0,0))],[(K,Z)]]).E,H0 (Ae Y ac [[(wg,.cells #[.int .u64 0,.int .u32 0] 131 (0,0))],[(mu,.cells #[.int .i32 0,.int .u32 0] 127 (0,0))],[(nx,.cells #[.int .i64 0] 121 (0,0))],[(K,Z)]]).H wg mu nx K,false⟩:St);rw[show(Ae Y ac [[(wg,.cells #[.int .u64 0,.int .u32 0] 131 (0,0))],[(mu,.cells #[.int .i32 0,.int .u32 0] 127 (0,0))],[(nx,.cells #[.int .i64 0] 121 (0,0))],[(K,Z)]]).E=Y from rfl,b2];have b3:Ak Y ac []:=trivial;have b4:=Uv (F:=F) (E:=Y) (v:=v) (all:=all) (fuel:=fuel) aO aN a7 (ae.Ag a6) a8 rfl (by omega) (λi hi=>?_) (λi x hi ah hb D o b5=>?_)
 rotate_left
 .have b6:i<all.length:=hi;obtain⟨x,ah⟩:∃x,all[i]?=some x:=⟨_,f9 b6⟩;let⟨c4,b7,aQ⟩:=bp x (kL ah);have b8:ix all (i:Int)=some x:=by simpa [ix] using ah
  unfold Mp;simp only[b8,b7,Option.bind_some];show some _=some (!(match all[i]? with | some x=> !good x | none=>false))
  rw[ah];simp only[Bool.not_not,aQ];congr 1;apply decide_eq_decide.2;exact Int.ofNat_inj
 .let⟨xs,aC,b9⟩:=(show ∃xs:List ((Nat×Nat)×Bool),Df (rP (rN .u8) (rN .u8)) true rB false ak o xs/\∀x,x∈xs.map (·.1)↔∃i,all[i]?=some x/\¬D i from b5);refine⟨xs,by rw[← aB];exact aC,λo' ca=>⟨Cu xs x,by rw[aB];exact ca,λy=>?_⟩⟩;rw[Sv,b9];constructor;rintro⟨⟨i2,h1,ab⟩,aq⟩;exact⟨i2,h1,λaD=>aD.elim ab λe=>aq (by subst e;rw[ah] at h1;exact(d0 h1).symm)⟩;rintro⟨i2,h1,ab⟩;refine⟨⟨i2,h1,λh=>ab (.inl h)⟩,λe=>ab (.inr ?_)⟩;subst e;let⟨k1,cb⟩:=d8.1 h1;let⟨c5,cc⟩:=d8.1 ah;exact(List.getElem_inj aZ).1 (cb.trans cc.symm)
 refine SE (F:=F) rfl b3 b4 ?_ bR bS;refine JL.seq (JL.region ?_);refine Ac (v:=.bool false) rfl rfl rfl (λρ h=>Yl.to (Yl.lss (h _ _ rfl) (h _ _ rfl)) (by rw[kZ (show ¬((4:Int)<4) by omega)])) ?_;refine JL.done (JL.seq ?_);refine I4 rfl (JL.exit rfl ?_);refine JL.seq (JL.region ?_);refine JL.wait Tryz.Ib (F:=F) (show 4<2147483648 by omega) rfl rfl rfl rfl rfl (Q:=Q) (λg s h=>h) λai f aR cd ce cg=>?_;have ci:H K=none:=(aP.2 (K,Z) (by simp)).2;have ck:H O=none:=(aP.2 (O,.deferred (some [])) (by simp)).2;have cm:ai O=none:=by
  cases hd:ai O with
  | none=>rfl
  | some o=>
   have h1:=ce O (by rw[hd];exact λe=>by cases e);have ab:(Ae Y ac []).H O=some (.deferred (some [])):=by rw[aA];show AS [(O,.deferred (some []))] H O=_;simp[AS]
   rw[ab] at h1;cases h1
 have ba:Ak ai H [[(K,f)],[(O,.deferred (some []))]]:=Nd.iff.2 ⟨by simpa using bZ,λq bb=>by
  simp only[kT,mv,k2,lj,lh,f7,kB,k5] at bb
  rcases bb with rfl | rfl;exact⟨cd,ci⟩
  .exact⟨cm,ck⟩⟩
 have co:(⟨ai,F.H4 (Ae Y ac []).H f,false⟩:St)=Ae ai H [[(K,f)],[(O,.deferred (some []))]]:=by
  rw[aA];unfold Ae mk;congr 1
 rw[co];refine JL.done (JL.seq ?_);refine JL.region (Ac (v:=.slice none 0 0) rfl rfl rfl (λρ h=>Yl.assign (h _ _ rfl)) ?_);refine JL.done ?_;let⟨xs,aC,be⟩:=(show ∃xs:List ((Nat×Nat)×Bool),Df (rP (rN .u8) (rN .u8)) true rB false ak f xs/\∀x,x∈xs.map (·.1)↔∃i,all[i]?=some x/\¬(i<F.N/\F.bad i=true) from cg);rw[aB] at aC;obtain⟨aS,ys,hyp,es,V,rfl,cp,bf,cq⟩:=aC;refine JL.seq (JL.seq ?_);refine JL.region (Ac (v:=.map (some K)) rfl rfl rfl (λρ h=>Yl.load M1 (h _ _ rfl) (At.AN (j:=0) (a8.Ag aR) rfl)) ?_);refine JS.range Tryz.underlying113 (Dp (i:=0) (j:=0) ba (show _=some [(K,.map es V)] from rfl) rfl) rfl rfl rfl ba rfl λit cr=>JL.done (JL.block ?_);refine Ap (L':=[(1,.pointer (some ⟨r1,0,none⟩)),(9,.slice none ((([]:List ((Nat×Nat)×Bool)).map (·.1)).length) 0),(28,.pointer (some ⟨it,0,none⟩))]) ⟨rfl,rfl,rfl,trivial⟩ (EJ (S':=[[(K,.map es V)],[(O,.deferred (some []))],[],[(it,.mapIter (some K) V #[] V)]]) (by simp) cr λct=>?_);refine JL.loop (λ(q:Xw)=>Le ai q.E/\H6 es ys q.seen q.done/\OL 89 (rP (rN .u8) (rN .u8)) q.E q.a q.c q.g (q.done.map (·.1))/\Ak q.E H [[(K,.map es V)],[(O,.deferred (some []))],q.g,[(it,.mapIter (some K) V q.seen V)]]) (λq=>ys.length - q.done.length) (λq=>[(1,.pointer (some ⟨r1,0,none⟩)),(9,.slice q.a (q.done.map (·.1)).length q.c),(28,.pointer (some ⟨it,0,none⟩))]) (λq=>Ae q.E H [[(K,.map es V)],[(O,.deferred (some []))],q.g,[(it,.mapIter (some K) V q.seen V)]]) ⟨ai,#[],[],none,0,[]⟩ ⟨Le.refl _,H6.nil,OL.nil,ct⟩ rfl rfl ?_;rintro q ⟨aT,cu,aU,am⟩ again;refine JL.seq (JL.region ?_);refine TN 3 cp bf cq (aS.perm hyp) cu (Dp (i:=0) (j:=0) am (show _=some [(K,.map es V)] from rfl) rfl) am rfl rfl rfl rfl rfl (λe U aF c6 c7 c8 he aV aW=>?_) (λhd=>?_)
 .obtain⟨c9,⟨_,_,rfl,rfl,rfl⟩,aX⟩:=aF;replace aX:e.key=.agg #[.int .u8 ((U.1.1:Nat):Int),.int .u8 ((U.1.2:Nat):Int)]:=aX;refine Ac (v:=.bool true) rfl rfl rfl (λρ h=>Yl.extract (h _ _ rfl) rfl) (JL.done ?_);refine JL.seq (Nq rfl ?_);refine JL.skip (JL.block ?_);refine JL.seq (JL.region ?_);refine JS.entry 3 (Dp (i:=0) (j:=0) aW (show _=some [(K,.map es V)] from rfl) rfl) he bf aW rfl rfl rfl rfl rfl (Ac (v:=.agg #[.int .u8 ((U.1.1:Nat):Int),.int .u8 ((U.1.2:Nat):Int)]) rfl rfl rfl (λρ h=>Yl.extract (h _ _ rfl) (kR some aX)) ?_);refine JS.alloc rfl rfl rfl aW J8 λcw cy=>JS.store (v:=.agg #[.int .u8 ((U.1.1:Nat):Int),.int .u8 ((U.1.2:Nat):Int)]) (off:=0) 4 rfl rfl rfl cy rfl rfl Cq (by simp[Value.cells,A3]) rfl (d4 rfl) λan=>A8 4 an rfl λbg bh aY an=>?_;replace aY:At bg cw 0 [.int .u8 ((U.1.1:Nat):Int),.int .u8 ((U.1.2:Nat):Int)]:=aY;refine EJ (S':=[[(K,.map es V)],[(O,.deferred (some []))],q.g,[(it,.mapIter (some K) V (q.seen.push e.born) V)]]) (by simp) an λcz=>JL.done ?_;have cA:=aU.Ag bh;have cB:(q.done.map (·.1)).length+1<=2^40:=by
   have h1:=aV.len;have ab:ys.length<=all.length:=by
    have ae:(xs.map (·.1)).length=xs.length:=by simp
    rw[hyp.length_eq,← ae];exact LC aS λx ah=>by let⟨i2,ae,_⟩:=(be x).1 ah;exact kL ae
   simp at h1 ⊢;omega
  have cC:(room (q.done.map (·.1)) U.1).bind some=some (q.done.map (·.1)++ [U.1]):=by unfold room;rw[d5 cB];rfl
  refine JL.region (Ac (v:=.slice q.a ((q.done.map (·.1))).length q.c) rfl rfl rfl (λρ h=>Yl.move (h _ _ rfl)) ?_);refine Ac (v:=.agg #[.int .u8 ((U.1.1:Nat):Int),.int .u8 ((U.1.2:Nat):Int)]) rfl rfl rfl (λρ h=>Bm (vs:=[.int .u8 ((U.1.1:Nat):Int),.int .u8 ((U.1.2:Nat):Int)]) F4 Cq (h _ _ rfl) (At.Cl aY)) ?_;let⟨bi,bj,da⟩:=bind_some cC;refine JS.app (pp:=(rP (rN .u8) (rN .u8))) (v:=.agg #[.int .u8 ((U.1.1:Nat):Int),.int .u8 ((U.1.2:Nat):Int)]) (a:=q.a) (c:=q.c) 2 bj rfl rfl rfl rfl (λ_=>rfl) rfl (λ_=>rfl) rfl rfl rfl Tryz.underlying84 Tryz.underlying84 Tryz.underlying84 Cq (EK Tryz.type89) J8 rfl (by decide) (by decide) (by decide) (by decide) cA ⟨_,_,rfl,rfl,rfl⟩ cz rfl λdb a1 c2 bl aq aL=>Ac (v:=.slice a1 (bi).length c2) rfl rfl rfl (λρ h=>Yl.assign (h _ _ rfl)) (JL.done ?_);refine EJ (S':=[[(K,.map es V)],[(O,.deferred (some []))],bl,[(it,.mapIter (some K) V (q.seen.push e.born) V)]]) (by simp) aL λal=>Bv ?_;have ex:bi=(q.done++ [U]).map (·.1):=by rw[(Nt bj).2];simp
  rw[ex];refine Ap ?_ (again ⟨bg,q.seen.push e.born,q.done++ [U],a1,c2,bl⟩ ⟨(aT.trans bh),aV,by rw[← ex];exact aq,al⟩ ?_);exact⟨rfl,rfl,rfl,trivial⟩
  .have h1:=aV.len;have ab:(q.done++ [U]).length=q.done.length+1:=by simp
   show ys.length - (q.done++ [U]).length<ys.length - q.done.length;omega
 .refine Ac (v:=.bool false) rfl rfl rfl (λρ h=>Yl.extract (h _ _ rfl) rfl) (JL.done ?_);refine JL.seq (I4 rfl ?_);refine JL.exit rfl ?_;have ar:(q.done.map (·.1)).Perm (all.filter good):=by
   refine((hd.trans hyp).map (·.1)).trans ((mW aS (aZ.filter _)).2 λx=>?_);rw[be,kY];constructor
   .rintro⟨i2,h1,ab⟩;refine⟨kL h1,?_⟩;cases aQ:good x with
    | true=>rfl
    | false=>exact absurd ⟨(d8.1 h1).1,by show(match all[i2]? with | some x=> !good x | none=>false)=true;rw[h1];simp[aQ]⟩ ab
   .rintro⟨h1,ab⟩;let⟨i2,ae⟩:=kQ.1 h1;refine⟨i2,ae,λaq=>?_⟩;have aD:(match all[i2]? with | some x=> !good x | none=>false)=true:=aq.2
    rw[ae] at aD;simp[ab] at aD
  obtain⟨ag,cD⟩:∃ag:List (Nat×Nat),ag=q.done.map (·.1):=⟨_,rfl⟩;rw[← cD] at ar aU ⊢;let⟨r,aM,cE⟩:=br _ ar;have cF:ag≠ []:=λe=>by
   rw[e] at ar;obtain⟨x,cG,cH⟩:=bq;have:=ar.symm.subset (kY.2 ⟨cG,cH⟩);cases this
  refine JL.seq (JL.region ?_);refine Ac (v:=.slice q.a ag.length q.c) rfl rfl rfl (λρ h=>Yl.move (h _ _ rfl)) (Ac (v:=.agg #[iV v.1,iV v.2.1,.slice a1 (v.2.2).length c2]) rfl rfl rfl (λρ h=>Bm (vs:=[iV v.1,iV v.2.1,.slice a1 (v.2.2).length c2]) HR GW (h _ _ rfl) (At.Cl (a7.Ag (aR.trans aT)))) ?_);obtain⟨aE,bm⟩:∃aE:Value,aE=.func (.func 54) #[.agg #[iV v.1,iV v.2.1,.slice a1 (v.2.2).length c2]] #[]:=⟨_,rfl⟩;have bn:=UU (J:=Dv Tryz.prog) (pf:=v.2.1) (wv:=.slice a1 (v.2.2).length c2) aU cF aM;rw[← bm] at bn;refine Ac (v:=aE) rfl rfl rfl (λρ h=>by rw[bm];exact Lx (by simp[h (.tmp 38) _ rfl]) (by simp)) (DI (vs:=[.slice q.a ag.length q.c,aE]) 2 bn rfl rfl rfl (A4 Tryz.func53 rfl) rfl am rfl ?_);rintro _ dc dd cI ⟨rfl,cJ,cK⟩ cM;refine JL.done (CP 2 cJ cM rfl λde cN cO cP=>?_);refine JL.seq (JL.region ?_);refine Ac (v:=.slice q.a ag.length q.c) rfl rfl rfl (λρ h=>Yl.move (h _ _ rfl)) (Ac (v:=.slice q.a ag.length q.c) rfl rfl rfl (λρ h=>Yl.assign (h _ _ rfl)) ?_);refine JL.done (Hm rfl ?_);exact JO.collected 1 rfl cP rfl λcQ=>JO.leave (v:=.slice q.a ag.length q.c) rfl (Ay.list Tryz.func39 rfl (vs:=[.slice q.a ag.length q.c]) ⟨rfl,trivial⟩) (IZ cQ λcR=>aF _ _ _ _ (a6.trans (aR.trans (aT.trans (cI.trans cN)))) rfl ⟨q.a,q.c,r,by rw[cK],rfl,cO,cE.trans ar⟩ cR)
end Pal
