/- DebtAdds, row of debt: for every input the law is true and its arguments read behind the call as before it. Part 6 of 9. -/
import Derived.Test.YtmeophcclkejkaaGreatAdb
import Derived.Test.YtmeophcclkejkaaGreatAdc
import Derived.Test.YtmeophcclkejkaaGreatAde
set_option linter.all false
set_option maxRecDepth 100000
namespace Pal
open Go Go.Conc Go.Proofs
open Go.Proofs.Tryz
def Lr(fu_:Nat)(O:Int×Int×Int)(U:(List AX)×(Cg))(V:(List Int)×Int×Nat×Int)(Y:Dq×(Cg))(K:Int):Option (Bn Int ((Bool)⊕(Unit))):= if K<((([O,Y.1]:Ay)).length:Int) then((ix U.1 V.2.2.2).bind λac=> (f21 fu_ ac).bind λZ=> (ix ([O,Y.1]:Ay) K).bind λae=> (f41 fu_ Z ae).bind λaa=> (ix U.1 V.2.2.2).bind λag=> (ix ([O,Y.1]:Ay) K).bind λah=> (f42 fu_ ag ah).bind λab=> Option.bind (if aa.2≠ab.2 then(some true) else((f30 fu_ aa.1 ab.1).bind λai=> some (!ai))) λaj=> Option.bind (if aj=true then(some true) else((ix U.1 V.2.2.2).bind λak=> (f30 fu_ Z ak).bind λal=> some (!al))) λam=> if am=true then(some (.done (Sum.inl false))) else((Au (K+1)).bind λan=> some (.more an))) else(some (.done (Sum.inr ())))
def Ng(fu_:Nat)(V:Int×Int×Int)(U:(List AX)×(Cg))(K:(List Int)×Int×Nat×Int):Option (Bn ((List Int)×Int×Nat×Int) ((Bool)⊕(Cg))):= if K.2.2.2<(U.1.length:Int) then((ix U.1 K.2.2.2).bind λY=> (f40 fu_ (K.1,K.2.1,K.2.2.1) (max (2) (min ((Y.1.length:Int)) (5)))).bind λO=> Option.bind (iter (Lr fu_ V U K O) fu_ 0) λZ=> Sum.elim (λr=>some (.done (Sum.inl r))) (λab=> (Au (K.2.2.2+1)).bind λaa=> some (.more (O.2.1,O.2.2.1,O.2.2.2,aa))) Z) else(some (.done (Sum.inr (K.1,K.2.1,K.2.2.1))))
def f8(fu_:Nat)(p0:AX)(O:Int×Int×Int)(p2:List Int):Option Bool:= (f17 fu_ p0).bind λU=> if U=true then((f18 fu_).bind λV=> some V) else((f20 fu_ p2).bind λY=> (f19 fu_ p0 O Y).bind λK=> Option.bind (iter (Ng fu_ O K) fu_ (K.2.1,K.2.2.1,K.2.2.2,0)) λZ=> Sum.elim (λr=>some r) (λab=> (f18 fu_).bind λaa=> some aa) Z)
theorem Xe{E H:LH}{a1:Aw}{c2:Nat}{b6:Aw}{b7:Nat}{b8:Aw}{b9:Nat}{p0:AX}{ac:Int×Int×Int}{p2:List Int}(ca:Am (rL rI) E a1 c2 p0.1)(cb:Am Ar E b6 b7 p0.2)(dK:Am rI E b8 b9 p2){fu_:Nat}{r:Bool}(cc:f8 fu_ p0 ac p2=some r):(Gv Tryz.prog).ok (Ll Tryz.prog (λv _=>v= .bool r)) (G (Frame.enter Tryz.prog 8 ([.agg #[sV a1 p0.1 c2,sV b6 p0.2 b7],.agg #[iV ac.1,iV ac.2.1,iV ac.2.2],sV b8 p2 b9]:Lv_).toArray .normal) []) (mk E H []):=by
 refine UD func8 rfl rfl (Nat.le_of_ble_eq_true rfl) ?_;have dL:An E H [[]]:=trivial;unfold f8 at cc;refine zg 2 rfl (Dc dL λi3 i4 a8 cd dM=>?_);refine Dc dM λam i5 aJ ce dN=>?_;refine zg 5 rfl (Cw (cd.Ag aJ) Bz A2 rfl rfl ?_);obtain⟨i6,dO,dP⟩:=bs cc;refine Cd (Ys (ca.Ag (a8.Ac aJ)) (cb.Ag (a8.Ac aJ)) dO) rfl rfl (A5 func17 rfl) dN λi7 aP dQ=>AQ (S':= [[],[],[],[]]) rfl dQ λcf=>JL.done (B6 dP (λdR dS=>?_) (λdR dT=>?_))
 ·obtain⟨dU,dV,dW⟩:=bs dS;refine zg 2 rfl (Cd (SR dV) rfl rfl (A5 func18 rfl) cf λi8 i9 ja=>?_);refine zg 2 rfl ?_;obtain rfl:=oi dW;exact Gr rfl (JO.end (v:= .bool dU) rfl (by decide+kernel) func8 rfl rfl rfl)
 ·obtain⟨jb,dX,dY⟩:=bs dT;refine zg 4 rfl (Ck (Y5 (dK.Ag ((a8.Ac aJ).Ac aP)) dX) rfl rfl (A5 func20 rfl) cf ?_);rintro _ jc _ a9 ⟨U,jd,je,rfl,rfl,dZ⟩ ea;refine zg 4 rfl (Cw (cd.Ag ((aJ.Ac aP).Ac a9)) Bz A2 rfl rfl ?_);refine Cw (ce.Ag (aP.Ac a9)) CO AW rfl rfl ?_;obtain⟨an,eb,ec⟩:=bs dY;refine zg 1 rfl (BV 4 (YQ (ca.Ag (((a8.Ac aJ).Ac aP).Ac a9)) (cb.Ag (((a8.Ac aJ).Ac aP).Ac a9)) dZ eb) rfl rfl (A5 func19 rfl) ea rfl ?_);rintro _ bz _ ed ⟨ao,ap,ee,ef,rfl,rfl,aH,eg⟩ eh;obtain⟨cg,ei,ba⟩:=bs ec;refine zg 7 rfl (Bg (λL s=>∃(bA:Cg) (bB:LH) (ci:Aw) (ck:Nat),cg=Sum.inr bA/\Jn bz H bB [] [] L s (Am rI bB ci ck bA.1)) ?_ ?_)
  ·rintro _ _ ⟨bA,bB,ci,ck,rfl,rfl,rfl,jf,ej,jg⟩;have ek:=elim_inr ba;obtain⟨el,em,en⟩:=bs ek;refine zg 2 rfl (Cd (SR em) rfl rfl (A5 func18 rfl) ej λjh ji eo=>?_);refine AQ (S':= [[]]) rfl eo λjj=>zg 2 rfl ?_;obtain rfl:=oi en;exact Gr rfl (JO.end (v:= .bool el) rfl (by decide+kernel) func8 rfl rfl rfl)
  ·intro ep;refine JL.block (De ei (λL s Z=>∃(bm:LH) (bn:Aw) (bo:Nat),Jn bz H bm [bX U #[sV bn Z.1 bo,iV Z.2.1,.int .u64 ((Z.2.2.1:Nat):Int)] 74] [(4,Ai am 0),(7,Ai U 0),(8,sV ao an.1 ap),(9,iV Z.2.2.2)] L s (Am rI bm bn bo Z.1)) ⟨bz,ee,ef,rfl,rfl,Az,eh,eg⟩ ?_);rintro _ _ Z ⟨bm,bn,bo,rfl,rfl,aq,cm,cn⟩ bb ⟨jk,aK⟩ er;have co:=aK;unfold Ng at co;refine zg 5 rfl (JL.ln underlying31 rfl rfl rfl ?_);refine zg 2 rfl (A4 co (λet eu=>?_) (λet ew=>?_))
   ·refine zg 4 rfl (Et 11 λK=>?_);refine DJ 0 K (ce.Ag (((aP.Ac a9).Ac ed).Ac aq)) CO AW rfl rfl rfl (AZ K rfl [1,2,3] rfl ?_);obtain⟨bC,ex,ey⟩:=bs eu;refine DV 4 (aH.Ag aq) ex K underlying31 A2 ?_;rintro jl jm _ ⟨_,_,rfl,⟨jo,jp,rfl,jq⟩,⟨jr,js,rfl,jt⟩⟩ ez;refine JG.fd 5 K underlying25 Ct rfl rfl rfl rfl (EK 6 K 0 ez C7 rfl rfl rfl rfl ?_);refine AH 7 K rfl rfl (λρ h s' au=>Yl.len rfl underlying22 (h _ _ rfl)) (AH (v:=iV (min ((bC.1.length:Int)) (5))) 8 K rfl rfl (λρ h s' au=>Yl.min2 (h _ _ rfl) (h _ _ rfl)) ?_);refine AH (v:=iV (max (2) (min ((bC.1.length:Int)) (5)))) 9 K rfl rfl (λρ h s' au=>Yl.max2 (h _ _ rfl) (h _ _ rfl)) ?_;obtain⟨O,eA,eB⟩:=bs ey;refine Of (i:=10) (vs:= [Ai U 0,iV (max (2) (min ((bC.1.length:Int)) (5)))]) 0 (λ_ h=>by cases h) (Pj cn eA) (by decide+kernel) rfl rfl rfl NP rfl cm rfl ?_;rintro _ ju _ aI ⟨aa,ab,rfl,rfl,eC⟩ eD;refine Cv [11,12] (Fg (pp:=Ar) [.agg #[iV ac.1,iV ac.2.1,iV ac.2.2],.agg #[iV O.1.1,iV O.1.2.1,iV O.1.2.2]] [ac,O.1] rfl rfl rfl underlying23 AW Bq (by decide) rfl rfl rfl ⟨⟨_,_,rfl,rfl,⟨_,_,rfl,rfl,rfl⟩⟩,⟨_,_,rfl,rfl,⟨_,_,rfl,rfl,rfl⟩⟩,trivial⟩ eD λaB eE eF eG=>?_);refine AQ (S':= [[(U,.cells #[sV aa O.2.1 ab,iV O.2.2.1,.int .u64 ((O.2.2.2:Nat):Int)] 74 (0,0))],eE]) rfl eG λeH=>zg 3 rfl (BC 1 eF eH rfl λeI aC bD eJ=>?_);obtain⟨cp,eK,bd⟩:=bs eB;refine zg 3 rfl (Bg (λL s=>∃(cq:Unit) (bE:LH),cp=Sum.inr cq/\Jm eI H bE [bX U #[sV aa O.2.1 ab,iV O.2.2.1,.int .u64 ((O.2.2.2:Nat):Int)] 74] [(4,Ai am 0),(7,Ai U 0),(8,sV ao an.1 ap),(9,iV Z.2.2.2)] L s) ?_ ?_)
    ·rintro _ _ ⟨cq,bE,rfl,rfl,rfl,cr,eL⟩;have eM:=elim_inr bd;obtain⟨eN,eO,eP⟩:=bs eM;refine zg 3 rfl (Bs eO rfl rfl rfl ?_);refine zg 2 rfl ?_;obtain rfl:=oi eP;exact AB (er _ _ (O.2.1,O.2.2.1,O.2.2.2,eN) ⟨bE,aa,ab,rfl,rfl,(((aq.Ac aI).Ac aC).Ac cr),eL,(eC.Ag (aC.Ac cr))⟩ aK) rfl
    ·intro eQ;refine JL.block (Ds eK (λar=> [bX U #[sV aa O.2.1 ab,iV O.2.2.1,.int .u64 ((O.2.2.2:Nat):Int)] 74]) (λar=> [(4,Ai am 0),(7,Ai U 0),(8,sV ao an.1 ap),(9,iV Z.2.2.2),(10,.slice (AJ aB) (([ac,O.1]:Ay)).length 2),(11,iV ar)]) Az eJ ?_);rintro ar eR ae ct be ⟨jv,av⟩ bp;have cu:=av;unfold Lr at cu;refine zg 5 rfl (JL.ln underlying23 rfl rfl rfl ?_);refine zg 2 rfl (A4 cu (λeS eT=>?_) (λeS eU=>?_))
     ·obtain⟨jw,eV,eW⟩:=bs eT;refine zg 7 rfl (Es (aH.Ag (((aq.Ac aI).Ac aC).Ac ae)) eV underlying31 A2 ?_);rintro jx jy _ ⟨_,_,rfl,⟨jz,jA,rfl,eX⟩,⟨jB,jC,rfl,eY⟩⟩ eZ;refine Cw eZ Bz A2 rfl rfl ?_;obtain⟨aj,e0,e1⟩:=bs eW;refine Ck (Yn eX eY e0) rfl rfl (A5 func21 rfl) ct ?_;rintro _ jD _ ai ⟨aQ,aR,aS,aT,rfl,rfl,aU,aV⟩ e3;refine Cx e3 Dv λbf e4=>?_;refine AQ (S':= [[(U,.cells #[sV aa O.2.1 ab,iV O.2.2.1,.int .u64 ((O.2.2.2:Nat):Int)] 74 (0,0))],[],[(bf,.cells #[nS,nS] 25 (0,0))]]) rfl e4 λe5=>Bv 2 e5 A2 λe6=>?_;refine Cf 2 e6 rfl λjE Y bg cv=>zg 2 rfl (Et 11 λK=>?_);refine DJ 0 K bg Bz A2 rfl rfl rfl (AZ K rfl [1,2] rfl ?_);obtain⟨aW,e7,e8⟩:=bs e1;refine DV 3 (bD.Ag ((ae.Ac ai).Ac Y)) e7 K underlying23 AW ?_;rintro jF jG _ ⟨_,_,rfl,rfl,⟨_,_,rfl,rfl,rfl⟩⟩ e9;refine DJ 4 K e9 CO AW rfl rfl rfl ?_;obtain⟨V,cw,cy⟩:=bs e8;refine Ed (i:=5) (j:=9) rfl (by decide+kernel) ?_ ?_
      ·refine Take.Dt (vs:= [.agg #[sV aQ aj.1 aR,sV aS aj.2 aT],.agg #[iV aW.1,iV aW.2.1,iV aW.2.2]]) cv (SQ (aU.Ag Y) (aV.Ag Y) cw) rfl rfl rfl (A5 func41 rfl) rfl ?_;rintro _ jH _ ak ⟨aX,aY,aZ,a0,rfl,rfl,cz,cA⟩ fa;refine AZ K rfl [6,7,8] rfl (JG.one (i:=9) rfl (by decide+kernel) ?_);refine Take.Gf fa rfl rfl rfl Dv λbF fb=>JG.one (i:=10) rfl (by decide+kernel) (Take.KP (v:= .agg #[sV aX V.1.1 aY,sV aZ V.1.2 a0]) (off:=0) 4 fb rfl rfl rfl rfl rfl A2 (by simp [Value.cells,BT]) rfl (Nat.le_of_ble_eq_true rfl) λfc=>?_);refine Cv [11] (AQ (S':= [[(U,.cells #[sV aa O.2.1 ab,iV O.2.2.1,.int .u64 ((O.2.2.2:Nat):Int)] 74 (0,0))],[],[],[],[(bF,.cells #[sV aX V.1.1 aY,sV aZ V.1.2 a0] 25 (0,0))]]) rfl fc λcB=>?_);refine zg 3 rfl (Et 14 λK=>?_);refine AZ K rfl [0,1] rfl ?_;obtain⟨bq,fe,ff⟩:=bs cy;refine DV 2 (aH.Ag ((((((aq.Ac aI).Ac aC).Ac ae).Ac ai).Ac Y).Ac ak)) fe K underlying31 A2 ?_;rintro jI jJ _ ⟨_,_,rfl,⟨cC,cD,rfl,cE⟩,⟨cF,cG,rfl,cH⟩⟩ fg;refine DJ 3 K fg Bz A2 rfl rfl rfl (AZ K rfl [4,5] rfl ?_);obtain⟨a2,fh,fj⟩:=bs ff;refine DV 6 (bD.Ag (((ae.Ac ai).Ac Y).Ac ak)) fh K underlying23 AW ?_;rintro jK jL _ ⟨_,_,rfl,rfl,⟨_,_,rfl,rfl,rfl⟩⟩ fk;refine DJ 7 K fk CO AW rfl rfl rfl ?_;obtain⟨ag,cI,cJ⟩:=bs fj;refine Ed (i:=8) (j:=12) rfl (by decide+kernel) ?_ ?_
       ·refine Take.Dt (vs:= [.agg #[sV cC bq.1 cD,sV cF bq.2 cG],.agg #[iV a2.1,iV a2.2.1,iV a2.2.2]]) cB (M7 cE cH cI) rfl rfl rfl LY rfl ?_;rintro _ jM _ aL ⟨bG,bH,bI,bJ,rfl,rfl,fl,fm⟩ fo;refine AZ K rfl [9,10,11] rfl (JG.one (i:=12) rfl (by decide+kernel) ?_);refine Take.Gf fo rfl rfl rfl Dv λfp fq=>JG.one (i:=13) rfl (by decide+kernel) (Take.KP (v:= .agg #[sV bG ag.1.1 bH,sV bI ag.1.2 bJ]) (off:=0) 6 fq rfl rfl rfl rfl rfl A2 (by simp [Value.cells,BT]) rfl (Nat.le_of_ble_eq_true rfl) λfs=>?_);refine Cv [14] (AQ (S':= [[(U,.cells #[sV aa O.2.1 ab,iV O.2.2.1,.int .u64 ((O.2.2.2:Nat):Int)] 74 (0,0))],[],[],[],[(bF,.cells #[sV aX V.1.1 aY,sV aZ V.1.2 a0] 25 (0,0))],[],[(fp,.cells #[sV bG ag.1.1 bH,sV bI ag.1.2 bJ] 25 (0,0))]]) rfl fs λfu=>?_);refine zg 3 rfl (Cf 4 fu rfl λjN aD fv fw=>?_);refine Cf 6 fw rfl λcK aw fx cM=>Et 18 λK=>AZ K rfl [0,1,2,3] rfl ?_;obtain⟨cN,cO,fy⟩:=bs cJ;refine DO 9 #[true,true,true,true,true,true,true,true,true,false,false,false,false,false,false,false,false,false] (λL s=>∃(br:LH),Jm cK H br [bX U #[sV aa O.2.1 ab,iV O.2.2.1,.int .u64 ((O.2.2.2:Nat):Int)] 74] [(4,Ai am 0),(7,Ai U 0),(8,sV ao an.1 ap),(9,iV Z.2.2.2),(10,.slice (AJ aB) (([ac,O.1]:Ay)).length 2),(11,iV ar),(12,Ai bf 0),(84,.bool cN)] L s) ?_ ?_
        ·rintro _ _ ⟨br,rfl,rfl,bh,cP⟩;refine Bc 9 K rfl rfl ?_;obtain⟨fz,cQ,fA⟩:=bs fy;refine DO 0 #[true,true,true,true,true,true,true,true,true,true,true,true,true,true,true,true,true,true] (λL s=>∃(cR:LH),Jm br H cR [bX U #[sV aa O.2.1 ab,iV O.2.2.1,.int .u64 ((O.2.2.2:Nat):Int)] 74] [(4,Ai am 0),(7,Ai U 0),(8,sV ao an.1 ap),(9,iV Z.2.2.2),(10,.slice (AJ aB) (([ac,O.1]:Ay)).length 2),(11,iV ar),(93,.bool fz)] L s) ?_ ?_
         ·rintro _ _ ⟨cR,rfl,rfl,fB,cT⟩;refine AL.fin (by decide+kernel) (B6 fA (λfC fD=>?_) (λfC fE=>?_))
          ·refine zg 4 rfl (JS.drop 0 cT rfl λjO=>?_);obtain rfl:=oi fD;obtain rfl:=be _ av;have fF:=elim_inl bd;obtain rfl:=oi fF;obtain rfl:=bb _ aK;have fG:=elim_inl ba;obtain rfl:=oi fG;exact Gr rfl (JO.end (v:= .bool false) rfl (by decide+kernel) func8 rfl rfl rfl)
          ·obtain⟨fH,fI,fJ⟩:=bs fE;refine zg 4 rfl (Bs fI rfl rfl rfl ?_);refine zg 2 rfl ?_;obtain rfl:=oi fJ;exact bp fH ((((((((ae.Ac ai).Ac Y).Ac ak).Ac aL).Ac aD).Ac aw).Ac bh).Ac fB) cT rfl av
         ·intro cV;refine Md (c:=cN) (i:=85) rfl (λbK=>?_) (λbK=>?_)
          ·have fK:=ip cQ bK;refine AZ K rfl [10,11,12,13,14,15,16,17] rfl ?_;obtain rfl:=oi fK;refine B2 ?_ (cV _ _ ⟨br,rfl,rfl,Az,cP⟩);exact⟨rfl,rfl,rfl,rfl,rfl,rfl,rfl,trivial⟩
          ·have fL:=ib cQ bK;refine DJ 10 K (bg.Ag ((((ak.Ac aL).Ac aD).Ac aw).Ac bh)) Bz A2 rfl rfl rfl ?_;refine AZ K rfl [11,12] rfl ?_;obtain⟨cW,fM,fN⟩:=bs fL;refine DV 13 (aH.Ag ((((((((((aq.Ac aI).Ac aC).Ac ae).Ac ai).Ac Y).Ac ak).Ac aL).Ac aD).Ac aw).Ac bh)) fM K underlying31 A2 ?_;rintro jP jQ _ ⟨_,_,rfl,⟨fO,fP,rfl,fQ⟩,⟨fR,fS,rfl,fT⟩⟩ fU;refine DJ 14 K fU Bz A2 rfl rfl rfl ?_;obtain⟨fW,fX,fY⟩:=bs fN;refine JG.call (i:=15) (vs:= [.agg #[sV aQ aj.1 aR,sV aS aj.2 aT],.agg #[sV fO cW.1 fP,sV fR cW.2 fS]]) (Jj (aU.Ag (((((Y.Ac ak).Ac aL).Ac aD).Ac aw).Ac bh)) (aV.Ag (((((Y.Ac ak).Ac aL).Ac aD).Ac aw).Ac bh)) fQ fT fX) (by decide+kernel) rfl rfl rfl I3 rfl cP ?_;rintro _ fZ _ ga ⟨rfl,rfl⟩ gb;refine AH (v:= .bool (!fW)) 16 K rfl rfl (λρ h s' au=>Yl.not (h _ _ rfl)) ?_;refine Bc 17 K rfl rfl ?_;obtain rfl:=oi fY;refine B2 ?_ (cV _ _ ⟨fZ,rfl,rfl,ga,gb⟩);exact⟨rfl,rfl,rfl,rfl,rfl,rfl,rfl,trivial⟩
        ·intro cX;refine EN (q:=V.2≠ag.2) (i:=79) rfl (λbL=>?_) (λbL=>?_)
         ·have gc:=ip cO bL;refine AZ K rfl [4,5,6,7,8] rfl ?_;obtain rfl:=oi gc;refine B2 ?_ (cX _ _ ⟨cK,rfl,rfl,Az,cM⟩);exact⟨rfl,rfl,rfl,rfl,rfl,rfl,rfl,rfl,trivial⟩
         ·have gd:=im cO bL;refine DJ 4 K (fv.Ag aw) Bz A2 rfl rfl rfl ?_;refine DJ 5 K fx Bz A2 rfl rfl rfl ?_;obtain⟨ge,gf,gg⟩:=bs gd;refine JG.call (i:=6) (vs:= [.agg #[sV aX V.1.1 aY,sV aZ V.1.2 a0],.agg #[sV bG ag.1.1 bH,sV bI ag.1.2 bJ]]) (Jj (cz.Ag ((aL.Ac aD).Ac aw)) (cA.Ag ((aL.Ac aD).Ac aw)) (fl.Ag (aD.Ac aw)) (fm.Ag (aD.Ac aw)) gf) (by decide+kernel) rfl rfl rfl I3 rfl cM ?_;rintro _ gh _ gi ⟨rfl,rfl⟩ gj;refine AH (v:= .bool (!ge)) 7 K rfl rfl (λρ h s' au=>Yl.not (h _ _ rfl)) ?_;refine Bc 8 K rfl rfl ?_;obtain rfl:=oi gg;refine B2 ?_ (cX _ _ ⟨gh,rfl,rfl,gi,gj⟩);exact⟨rfl,rfl,rfl,rfl,rfl,rfl,rfl,rfl,trivial⟩
       ·refine Take.Gf cB rfl rfl rfl Dv λgk gl=>JG.one (i:=8) rfl (by decide+kernel) (Take.Dt (vs:= [.agg #[sV cC bq.1 cD,sV cF bq.2 cG],.agg #[iV a2.1,iV a2.2.1,iV a2.2.2]]) gl (M7 cE cH cI) rfl rfl rfl LY rfl ?_);rintro _ jR _ aM ⟨bM,bN,bO,bP,rfl,rfl,gm,gn⟩ gp;refine AZ K rfl [9,10,11] rfl (JG.one (i:=13) rfl (by decide+kernel) ?_);refine Take.KP (v:= .agg #[sV bM ag.1.1 bN,sV bO ag.1.2 bP]) (off:=0) 5 gp rfl rfl rfl rfl rfl A2 (by simp [Value.cells,BT]) rfl (Nat.le_of_ble_eq_true rfl) λgq=>Cv [14] (AQ (S':= [[(U,.cells #[sV aa O.2.1 ab,iV O.2.2.1,.int .u64 ((O.2.2.2:Nat):Int)] 74 (0,0))],[],[],[],[(bF,.cells #[sV aX V.1.1 aY,sV aZ V.1.2 a0] 25 (0,0))],[(gk,.cells #[sV bM ag.1.1 bN,sV bO ag.1.2 bP] 25 (0,0))],[]]) rfl gq λgr=>?_);refine zg 3 rfl (Cf 4 gr rfl λjS aE gt gu=>?_);refine Cf 5 gu rfl λcY ay gv cZ=>Et 18 λK=>AZ K rfl [0,1,2,3] rfl ?_;obtain⟨c0,c1,gw⟩:=bs cJ;refine DO 9 #[true,true,true,true,true,true,true,true,true,false,false,false,false,false,false,false,false,false] (λL s=>∃(bu:LH),Jm cY H bu [bX U #[sV aa O.2.1 ab,iV O.2.2.1,.int .u64 ((O.2.2.2:Nat):Int)] 74] [(4,Ai am 0),(7,Ai U 0),(8,sV ao an.1 ap),(9,iV Z.2.2.2),(10,.slice (AJ aB) (([ac,O.1]:Ay)).length 2),(11,iV ar),(12,Ai bf 0),(84,.bool c0)] L s) ?_ ?_
        ·rintro _ _ ⟨bu,rfl,rfl,bi,c3⟩;refine Bc 9 K rfl rfl ?_;obtain⟨gx,c4,gy⟩:=bs gw;refine DO 0 #[true,true,true,true,true,true,true,true,true,true,true,true,true,true,true,true,true,true] (λL s=>∃(c5:LH),Jm bu H c5 [bX U #[sV aa O.2.1 ab,iV O.2.2.1,.int .u64 ((O.2.2.2:Nat):Int)] 74] [(4,Ai am 0),(7,Ai U 0),(8,sV ao an.1 ap),(9,iV Z.2.2.2),(10,.slice (AJ aB) (([ac,O.1]:Ay)).length 2),(11,iV ar),(93,.bool gx)] L s) ?_ ?_
         ·rintro _ _ ⟨c5,rfl,rfl,gz,c6⟩;refine AL.fin (by decide+kernel) (B6 gy (λgA gB=>?_) (λgA gC=>?_))
          ·refine zg 4 rfl (JS.drop 0 c6 rfl λjT=>?_);obtain rfl:=oi gB;obtain rfl:=be _ av;have gD:=elim_inl bd;obtain rfl:=oi gD;obtain rfl:=bb _ aK;have gE:=elim_inl ba;obtain rfl:=oi gE;exact Gr rfl (JO.end (v:= .bool false) rfl (by decide+kernel) func8 rfl rfl rfl)
          ·obtain⟨gF,gG,gH⟩:=bs gC;refine zg 4 rfl (Bs gG rfl rfl rfl ?_);refine zg 2 rfl ?_;obtain rfl:=oi gH;exact bp gF ((((((((ae.Ac ai).Ac Y).Ac ak).Ac aM).Ac aE).Ac ay).Ac bi).Ac gz) c6 rfl av
         ·intro c7;refine Md (c:=c0) (i:=85) rfl (λbQ=>?_) (λbQ=>?_)
          ·have gI:=ip c4 bQ;refine AZ K rfl [10,11,12,13,14,15,16,17] rfl ?_;obtain rfl:=oi gI;refine B2 ?_ (c7 _ _ ⟨bu,rfl,rfl,Az,c3⟩);exact⟨rfl,rfl,rfl,rfl,rfl,rfl,rfl,trivial⟩
          ·have gJ:=ib c4 bQ;refine DJ 10 K (bg.Ag ((((ak.Ac aM).Ac aE).Ac ay).Ac bi)) Bz A2 rfl rfl rfl ?_;refine AZ K rfl [11,12] rfl ?_;obtain⟨c8,gK,gL⟩:=bs gJ;refine DV 13 (aH.Ag ((((((((((aq.Ac aI).Ac aC).Ac ae).Ac ai).Ac Y).Ac ak).Ac aM).Ac aE).Ac ay).Ac bi)) gK K underlying31 A2 ?_;rintro jU jV _ ⟨_,_,rfl,⟨gM,gN,rfl,gO⟩,⟨gP,gQ,rfl,gR⟩⟩ gS;refine DJ 14 K gS Bz A2 rfl rfl rfl ?_;obtain⟨gT,gU,gV⟩:=bs gL;refine JG.call (i:=15) (vs:= [.agg #[sV aQ aj.1 aR,sV aS aj.2 aT],.agg #[sV gM c8.1 gN,sV gP c8.2 gQ]]) (Jj (aU.Ag (((((Y.Ac ak).Ac aM).Ac aE).Ac ay).Ac bi)) (aV.Ag (((((Y.Ac ak).Ac aM).Ac aE).Ac ay).Ac bi)) gO gR gU) (by decide+kernel) rfl rfl rfl I3 rfl c3 ?_;rintro _ gW _ gX ⟨rfl,rfl⟩ gY;refine AH (v:= .bool (!gT)) 16 K rfl rfl (λρ h s' au=>Yl.not (h _ _ rfl)) ?_;refine Bc 17 K rfl rfl ?_;obtain rfl:=oi gV;refine B2 ?_ (c7 _ _ ⟨gW,rfl,rfl,gX,gY⟩);exact⟨rfl,rfl,rfl,rfl,rfl,rfl,rfl,trivial⟩
        ·intro c9;refine EN (q:=V.2≠ag.2) (i:=79) rfl (λbR=>?_) (λbR=>?_)
         ·have gZ:=ip c1 bR;refine AZ K rfl [4,5,6,7,8] rfl ?_;obtain rfl:=oi gZ;refine B2 ?_ (c9 _ _ ⟨cY,rfl,rfl,Az,cZ⟩);exact⟨rfl,rfl,rfl,rfl,rfl,rfl,rfl,rfl,trivial⟩
         ·have g0:=im c1 bR;refine DJ 4 K (gt.Ag ay) Bz A2 rfl rfl rfl ?_;refine DJ 5 K gv Bz A2 rfl rfl rfl ?_;obtain⟨g1,g3,g4⟩:=bs g0;refine JG.call (i:=6) (vs:= [.agg #[sV aX V.1.1 aY,sV aZ V.1.2 a0],.agg #[sV bM ag.1.1 bN,sV bO ag.1.2 bP]]) (Jj (cz.Ag ((aM.Ac aE).Ac ay)) (cA.Ag ((aM.Ac aE).Ac ay)) (gm.Ag (aE.Ac ay)) (gn.Ag (aE.Ac ay)) g3) (by decide+kernel) rfl rfl rfl I3 rfl cZ ?_;rintro _ g5 _ g6 ⟨rfl,rfl⟩ g7;refine AH (v:= .bool (!g1)) 7 K rfl rfl (λρ h s' au=>Yl.not (h _ _ rfl)) ?_;refine Bc 8 K rfl rfl ?_;obtain rfl:=oi g4;refine B2 ?_ (c9 _ _ ⟨g5,rfl,rfl,g6,g7⟩);exact⟨rfl,rfl,rfl,rfl,rfl,rfl,rfl,rfl,trivial⟩
      ·refine Take.Gf cv rfl rfl rfl Dv λbS g8=>JG.one (i:=5) rfl (by decide+kernel) (Take.Dt (vs:= [.agg #[sV aQ aj.1 aR,sV aS aj.2 aT],.agg #[iV aW.1,iV aW.2.1,iV aW.2.2]]) g8 (SQ (aU.Ag Y) (aV.Ag Y) cw) rfl rfl rfl (A5 func41 rfl) rfl ?_);rintro _ jW _ al ⟨a3,a4,a5,a6,rfl,rfl,da,db⟩ g9;refine AZ K rfl [6,7,8] rfl (JG.one (i:=10) rfl (by decide+kernel) ?_);refine Take.KP (v:= .agg #[sV a3 V.1.1 a4,sV a5 V.1.2 a6]) (off:=0) 3 g9 rfl rfl rfl rfl rfl A2 (by simp [Value.cells,BT]) rfl (Nat.le_of_ble_eq_true rfl) λha=>Cv [11] (AQ (S':= [[(U,.cells #[sV aa O.2.1 ab,iV O.2.2.1,.int .u64 ((O.2.2.2:Nat):Int)] 74 (0,0))],[],[],[(bS,.cells #[sV a3 V.1.1 a4,sV a5 V.1.2 a6] 25 (0,0))],[]]) rfl ha λdc=>?_);refine zg 3 rfl (Et 14 λK=>?_);refine AZ K rfl [0,1] rfl ?_;obtain⟨bv,hb,hc⟩:=bs cy;refine DV 2 (aH.Ag ((((((aq.Ac aI).Ac aC).Ac ae).Ac ai).Ac Y).Ac al)) hb K underlying31 A2 ?_;rintro jX jY _ ⟨_,_,rfl,⟨dd,de,rfl,df⟩,⟨dg,dh,rfl,di⟩⟩ hd;refine DJ 3 K hd Bz A2 rfl rfl rfl (AZ K rfl [4,5] rfl ?_);obtain⟨a7,he,hf⟩:=bs hc;refine DV 6 (bD.Ag (((ae.Ac ai).Ac Y).Ac al)) he K underlying23 AW ?_;rintro jZ j0 _ ⟨_,_,rfl,rfl,⟨_,_,rfl,rfl,rfl⟩⟩ hg;refine DJ 7 K hg CO AW rfl rfl rfl ?_;obtain⟨ah,dj,dk⟩:=bs hf;refine Ed (i:=8) (j:=12) rfl (by decide+kernel) ?_ ?_
       ·refine Take.Dt (vs:= [.agg #[sV dd bv.1 de,sV dg bv.2 dh],.agg #[iV a7.1,iV a7.2.1,iV a7.2.2]]) dc (M7 df di dj) rfl rfl rfl LY rfl ?_;rintro _ j1 _ aN ⟨bT,bU,bV,bW,rfl,rfl,hj,hk⟩ hl;refine AZ K rfl [9,10,11] rfl (JG.one (i:=12) rfl (by decide+kernel) ?_);refine Take.Gf hl rfl rfl rfl Dv λhm hn=>JG.one (i:=13) rfl (by decide+kernel) (Take.KP (v:= .agg #[sV bT ah.1.1 bU,sV bV ah.1.2 bW]) (off:=0) 6 hn rfl rfl rfl rfl rfl A2 (by simp [Value.cells,BT]) rfl (Nat.le_of_ble_eq_true rfl) λho=>?_);refine Cv [14] (AQ (S':= [[(U,.cells #[sV aa O.2.1 ab,iV O.2.2.1,.int .u64 ((O.2.2.2:Nat):Int)] 74 (0,0))],[],[],[(bS,.cells #[sV a3 V.1.1 a4,sV a5 V.1.2 a6] 25 (0,0))],[],[],[(hm,.cells #[sV bT ah.1.1 bU,sV bV ah.1.2 bW] 25 (0,0))]]) rfl ho λhp=>?_);refine zg 3 rfl (Cf 3 hp rfl λj2 aF hq hr=>?_);refine Cf 6 hr rfl λdm az hs dn=>Et 18 λK=>AZ K rfl [0,1,2,3] rfl ?_;obtain⟨dp,dq,ht⟩:=bs dk;refine DO 9 #[true,true,true,true,true,true,true,true,true,false,false,false,false,false,false,false,false,false] (λL s=>∃(bw:LH),Jm dm H bw [bX U #[sV aa O.2.1 ab,iV O.2.2.1,.int .u64 ((O.2.2.2:Nat):Int)] 74] [(4,Ai am 0),(7,Ai U 0),(8,sV ao an.1 ap),(9,iV Z.2.2.2),(10,.slice (AJ aB) (([ac,O.1]:Ay)).length 2),(11,iV ar),(12,Ai bf 0),(84,.bool dp)] L s) ?_ ?_
        ·rintro _ _ ⟨bw,rfl,rfl,bj,dr⟩;refine Bc 9 K rfl rfl ?_;obtain⟨hu,dt,hv⟩:=bs ht;refine DO 0 #[true,true,true,true,true,true,true,true,true,true,true,true,true,true,true,true,true,true] (λL s=>∃(du:LH),Jm bw H du [bX U #[sV aa O.2.1 ab,iV O.2.2.1,.int .u64 ((O.2.2.2:Nat):Int)] 74] [(4,Ai am 0),(7,Ai U 0),(8,sV ao an.1 ap),(9,iV Z.2.2.2),(10,.slice (AJ aB) (([ac,O.1]:Ay)).length 2),(11,iV ar),(93,.bool hu)] L s) ?_ ?_
         ·rintro _ _ ⟨du,rfl,rfl,hw,dv⟩;refine AL.fin (by decide+kernel) (B6 hv (λhx hy=>?_) (λhx hz=>?_))
          ·refine zg 4 rfl (JS.drop 0 dv rfl λj3=>?_);obtain rfl:=oi hy;obtain rfl:=be _ av;have hA:=elim_inl bd;obtain rfl:=oi hA;obtain rfl:=bb _ aK;have hB:=elim_inl ba;obtain rfl:=oi hB;exact Gr rfl (JO.end (v:= .bool false) rfl (by decide+kernel) func8 rfl rfl rfl)
          ·obtain⟨hC,hD,hE⟩:=bs hz;refine zg 4 rfl (Bs hD rfl rfl rfl ?_);refine zg 2 rfl ?_;obtain rfl:=oi hE;exact bp hC ((((((((ae.Ac ai).Ac Y).Ac al).Ac aN).Ac aF).Ac az).Ac bj).Ac hw) dv rfl av
         ·intro dw;refine Md (c:=dp) (i:=85) rfl (λbY=>?_) (λbY=>?_)
          ·have hF:=ip dt bY;refine AZ K rfl [10,11,12,13,14,15,16,17] rfl ?_;obtain rfl:=oi hF;refine B2 ?_ (dw _ _ ⟨bw,rfl,rfl,Az,dr⟩);exact⟨rfl,rfl,rfl,rfl,rfl,rfl,rfl,trivial⟩
          ·have hG:=ib dt bY;refine DJ 10 K (bg.Ag ((((al.Ac aN).Ac aF).Ac az).Ac bj)) Bz A2 rfl rfl rfl ?_;refine AZ K rfl [11,12] rfl ?_;obtain⟨dx,hH,hI⟩:=bs hG;refine DV 13 (aH.Ag ((((((((((aq.Ac aI).Ac aC).Ac ae).Ac ai).Ac Y).Ac al).Ac aN).Ac aF).Ac az).Ac bj)) hH K underlying31 A2 ?_;rintro j4 j5 _ ⟨_,_,rfl,⟨hJ,hK,rfl,hL⟩,⟨hM,hN,rfl,hO⟩⟩ hP;refine DJ 14 K hP Bz A2 rfl rfl rfl ?_;obtain⟨hQ,hR,hS⟩:=bs hI;refine JG.call (i:=15) (vs:= [.agg #[sV aQ aj.1 aR,sV aS aj.2 aT],.agg #[sV hJ dx.1 hK,sV hM dx.2 hN]]) (Jj (aU.Ag (((((Y.Ac al).Ac aN).Ac aF).Ac az).Ac bj)) (aV.Ag (((((Y.Ac al).Ac aN).Ac aF).Ac az).Ac bj)) hL hO hR) (by decide+kernel) rfl rfl rfl I3 rfl dr ?_;rintro _ hT _ hU ⟨rfl,rfl⟩ hV;refine AH (v:= .bool (!hQ)) 16 K rfl rfl (λρ h s' au=>Yl.not (h _ _ rfl)) ?_;refine Bc 17 K rfl rfl ?_;obtain rfl:=oi hS;refine B2 ?_ (dw _ _ ⟨hT,rfl,rfl,hU,hV⟩);exact⟨rfl,rfl,rfl,rfl,rfl,rfl,rfl,trivial⟩
        ·intro dy;refine EN (q:=V.2≠ah.2) (i:=79) rfl (λbZ=>?_) (λbZ=>?_)
         ·have hW:=ip dq bZ;refine AZ K rfl [4,5,6,7,8] rfl ?_;obtain rfl:=oi hW;refine B2 ?_ (dy _ _ ⟨dm,rfl,rfl,Az,dn⟩);exact⟨rfl,rfl,rfl,rfl,rfl,rfl,rfl,rfl,trivial⟩
         ·have hX:=im dq bZ;refine DJ 4 K (hq.Ag az) Bz A2 rfl rfl rfl ?_;refine DJ 5 K hs Bz A2 rfl rfl rfl ?_;obtain⟨hY,hZ,h0⟩:=bs hX;refine JG.call (i:=6) (vs:= [.agg #[sV a3 V.1.1 a4,sV a5 V.1.2 a6],.agg #[sV bT ah.1.1 bU,sV bV ah.1.2 bW]]) (Jj (da.Ag ((aN.Ac aF).Ac az)) (db.Ag ((aN.Ac aF).Ac az)) (hj.Ag (aF.Ac az)) (hk.Ag (aF.Ac az)) hZ) (by decide+kernel) rfl rfl rfl I3 rfl dn ?_;rintro _ h1 _ h2 ⟨rfl,rfl⟩ h3;refine AH (v:= .bool (!hY)) 7 K rfl rfl (λρ h s' au=>Yl.not (h _ _ rfl)) ?_;refine Bc 8 K rfl rfl ?_;obtain rfl:=oi h0;refine B2 ?_ (dy _ _ ⟨h1,rfl,rfl,h2,h3⟩);exact⟨rfl,rfl,rfl,rfl,rfl,rfl,rfl,rfl,trivial⟩
       ·refine Take.Gf dc rfl rfl rfl Dv λh4 h5=>JG.one (i:=8) rfl (by decide+kernel) (Take.Dt (vs:= [.agg #[sV dd bv.1 de,sV dg bv.2 dh],.agg #[iV a7.1,iV a7.2.1,iV a7.2.2]]) h5 (M7 df di dj) rfl rfl rfl LY rfl ?_);rintro _ j6 _ aO ⟨b0,b1,b2,b3,rfl,rfl,h6,h7⟩ h8;refine AZ K rfl [9,10,11] rfl (JG.one (i:=13) rfl (by decide+kernel) ?_);refine Take.KP (v:= .agg #[sV b0 ah.1.1 b1,sV b2 ah.1.2 b3]) (off:=0) 5 h8 rfl rfl rfl rfl rfl A2 (by simp [Value.cells,BT]) rfl (Nat.le_of_ble_eq_true rfl) λh9=>Cv [14] (AQ (S':= [[(U,.cells #[sV aa O.2.1 ab,iV O.2.2.1,.int .u64 ((O.2.2.2:Nat):Int)] 74 (0,0))],[],[],[(bS,.cells #[sV a3 V.1.1 a4,sV a5 V.1.2 a6] 25 (0,0))],[],[(h4,.cells #[sV b0 ah.1.1 b1,sV b2 ah.1.2 b3] 25 (0,0))],[]]) rfl h9 λia=>?_);refine zg 3 rfl (Cf 3 ia rfl λj7 aG ic ie=>?_);refine Cf 5 ie rfl λdz aA ig dA=>Et 18 λK=>AZ K rfl [0,1,2,3] rfl ?_;obtain⟨dB,dC,ih⟩:=bs dk;refine DO 9 #[true,true,true,true,true,true,true,true,true,false,false,false,false,false,false,false,false,false] (λL s=>∃(bx:LH),Jm dz H bx [bX U #[sV aa O.2.1 ab,iV O.2.2.1,.int .u64 ((O.2.2.2:Nat):Int)] 74] [(4,Ai am 0),(7,Ai U 0),(8,sV ao an.1 ap),(9,iV Z.2.2.2),(10,.slice (AJ aB) (([ac,O.1]:Ay)).length 2),(11,iV ar),(12,Ai bf 0),(84,.bool dB)] L s) ?_ ?_
        ·rintro _ _ ⟨bx,rfl,rfl,bl,dD⟩;refine Bc 9 K rfl rfl ?_;obtain⟨ii,dE,ij⟩:=bs ih;refine DO 0 #[true,true,true,true,true,true,true,true,true,true,true,true,true,true,true,true,true,true] (λL s=>∃(dF:LH),Jm bx H dF [bX U #[sV aa O.2.1 ab,iV O.2.2.1,.int .u64 ((O.2.2.2:Nat):Int)] 74] [(4,Ai am 0),(7,Ai U 0),(8,sV ao an.1 ap),(9,iV Z.2.2.2),(10,.slice (AJ aB) (([ac,O.1]:Ay)).length 2),(11,iV ar),(93,.bool ii)] L s) ?_ ?_
         ·rintro _ _ ⟨dF,rfl,rfl,ik,dG⟩;refine AL.fin (by decide+kernel) (B6 ij (λil io=>?_) (λil iq=>?_))
          ·refine zg 4 rfl (JS.drop 0 dG rfl λj8=>?_);obtain rfl:=oi io;obtain rfl:=be _ av;have ir:=elim_inl bd;obtain rfl:=oi ir;obtain rfl:=bb _ aK;have iu:=elim_inl ba;obtain rfl:=oi iu;exact Gr rfl (JO.end (v:= .bool false) rfl (by decide+kernel) func8 rfl rfl rfl)
          ·obtain⟨iv,iw,iy⟩:=bs iq;refine zg 4 rfl (Bs iw rfl rfl rfl ?_);refine zg 2 rfl ?_;obtain rfl:=oi iy;exact bp iv ((((((((ae.Ac ai).Ac Y).Ac al).Ac aO).Ac aG).Ac aA).Ac bl).Ac ik) dG rfl av
         ·intro dH;refine Md (c:=dB) (i:=85) rfl (λb4=>?_) (λb4=>?_)
          ·have iz:=ip dE b4;refine AZ K rfl [10,11,12,13,14,15,16,17] rfl ?_;obtain rfl:=oi iz;refine B2 ?_ (dH _ _ ⟨bx,rfl,rfl,Az,dD⟩);exact⟨rfl,rfl,rfl,rfl,rfl,rfl,rfl,trivial⟩
          ·have iA:=ib dE b4;refine DJ 10 K (bg.Ag ((((al.Ac aO).Ac aG).Ac aA).Ac bl)) Bz A2 rfl rfl rfl ?_;refine AZ K rfl [11,12] rfl ?_;obtain⟨dI,iB,iC⟩:=bs iA;refine DV 13 (aH.Ag ((((((((((aq.Ac aI).Ac aC).Ac ae).Ac ai).Ac Y).Ac al).Ac aO).Ac aG).Ac aA).Ac bl)) iB K underlying31 A2 ?_;rintro j9 kb _ ⟨_,_,rfl,⟨iD,iE,rfl,iF⟩,⟨iG,iH,rfl,iI⟩⟩ iJ;refine DJ 14 K iJ Bz A2 rfl rfl rfl ?_;obtain⟨iK,iL,iM⟩:=bs iC;refine JG.call (i:=15) (vs:= [.agg #[sV aQ aj.1 aR,sV aS aj.2 aT],.agg #[sV iD dI.1 iE,sV iG dI.2 iH]]) (Jj (aU.Ag (((((Y.Ac al).Ac aO).Ac aG).Ac aA).Ac bl)) (aV.Ag (((((Y.Ac al).Ac aO).Ac aG).Ac aA).Ac bl)) iF iI iL) (by decide+kernel) rfl rfl rfl I3 rfl dD ?_;rintro _ iN _ iO ⟨rfl,rfl⟩ iP;refine AH (v:= .bool (!iK)) 16 K rfl rfl (λρ h s' au=>Yl.not (h _ _ rfl)) ?_;refine Bc 17 K rfl rfl ?_;obtain rfl:=oi iM;refine B2 ?_ (dH _ _ ⟨iN,rfl,rfl,iO,iP⟩);exact⟨rfl,rfl,rfl,rfl,rfl,rfl,rfl,trivial⟩
        ·intro dJ;refine EN (q:=V.2≠ah.2) (i:=79) rfl (λb5=>?_) (λb5=>?_)
         ·have iQ:=ip dC b5;refine AZ K rfl [4,5,6,7,8] rfl ?_;obtain rfl:=oi iQ;refine B2 ?_ (dJ _ _ ⟨dz,rfl,rfl,Az,dA⟩);exact⟨rfl,rfl,rfl,rfl,rfl,rfl,rfl,rfl,trivial⟩
         ·have iR:=im dC b5;refine DJ 4 K (ic.Ag aA) Bz A2 rfl rfl rfl ?_;refine DJ 5 K ig Bz A2 rfl rfl rfl ?_;obtain⟨iS,iT,iU⟩:=bs iR;refine JG.call (i:=6) (vs:= [.agg #[sV a3 V.1.1 a4,sV a5 V.1.2 a6],.agg #[sV b0 ah.1.1 b1,sV b2 ah.1.2 b3]]) (Jj (da.Ag ((aO.Ac aG).Ac aA)) (db.Ag ((aO.Ac aG).Ac aA)) (h6.Ag (aG.Ac aA)) (h7.Ag (aG.Ac aA)) iT) (by decide+kernel) rfl rfl rfl I3 rfl dA ?_;rintro _ iW _ iX ⟨rfl,rfl⟩ iY;refine AH (v:= .bool (!iS)) 7 K rfl rfl (λρ h s' au=>Yl.not (h _ _ rfl)) ?_;refine Bc 8 K rfl rfl ?_;obtain rfl:=oi iU;refine B2 ?_ (dJ _ _ ⟨iW,rfl,rfl,iX,iY⟩);exact⟨rfl,rfl,rfl,rfl,rfl,rfl,rfl,rfl,trivial⟩
     ·refine JL.exit rfl ?_;obtain rfl:=oi eU;have iZ:cp=(Sum.inr ()):=(be _ av).symm;exact AB (eQ _ _ ⟨(),eR,iZ,rfl,rfl,ae,ct⟩) rfl
   ·refine JL.exit rfl (JS.drop 0 cm rfl λi0=>?_);obtain rfl:=oi ew;have i1:cg=(Sum.inr (Z.1,Z.2.1,Z.2.2.1)):=(bb _ aK).symm;exact AB (ep _ _ ⟨(Z.1,Z.2.1,Z.2.2.1),bm,bn,bo,i1,rfl,rfl,aq,i0,cn⟩) rfl
end Pal
namespace Pal
def BU{α:Type}(o:Option α)(Q:α->Prop):Prop:=∃a,o=some a/\Q a
section
variable {α β:Type}{Q R:α->Prop}
theorem Bo{a:α}(h:Q a):BU (some a) Q:=⟨a,rfl,h⟩
theorem BU.Ag{o:Option α}(h:BU o R)(k:∀a,R a->Q a):BU o Q:=let ⟨a,K,O⟩:=h;⟨a,K,k a O⟩
theorem B5{o:Option β}{f:β->Option α}{S:β->Prop}(h:BU o S)(k:∀b,S b->BU (f b) Q):BU (o.bind f) Q:=by
 obtain⟨b,rfl,hb⟩:=h;obtain⟨a,K,O⟩:=k b hb;exact⟨a,K,O⟩
theorem Dr{o:Option β}{f:β->Option α}{b:β}(h:o=some b)(k:BU (f b) Q):BU (o.bind f) Q:=by subst h;exact k
theorem BU.Zl{f:Int->Option α}{x:Int}(K: -9223372036854775808<=x)(O:x<=9223372036854775807)(k:BU (f x) Q):BU ((Au x).bind f) Q:=Dr (if_pos ⟨K,O⟩) k
theorem KT{xs:List β}{i:Int}{m:Nat}{b:β}(h:i=(m:Int))(hb:xs[m]? =some b):ix xs i=some b:=by subst h;simpa [ix] using hb
theorem Ff{f:β->Option α}{xs:List β}{i:Int}{m:Nat}(h:i=(m:Int))(hm:m<xs.length)(k:BU (f xs[m]) Q):BU ((ix xs i).bind f) Q:=Dr (KT h (List.getElem?_eq_getElem hm)) k
theorem Oa{f:List β->Option α}{xs:List β}{x:β}(h:xs.length+1<=2 ^ 40)(k:BU (f (xs++ [x])) Q):BU ((room xs x).bind f) Q:=Dr (if_pos h) k
theorem Fx{c:Prop} [Decidable c] {x y:Option α}(K:c->BU x Q)(O:¬c->BU y Q):BU (if c then x else y) Q:=by
 by_cases h:c
 ·rw [if_pos h];exact K h
 ·rw [if_neg h];exact O h
theorem Fy{c:Prop} [Decidable c] {x y:Option α}(h:c)(k:BU x Q):BU (if c then x else y) Q:=by rw [if_pos h];exact k
theorem Ez{c:Prop} [Decidable c] {x y:Option α}(h:¬c)(k:BU y Q):BU (if c then x else y) Q:=by rw [if_neg h];exact k
def Bn.sat{S A:Type}(I:S->Prop)(Q:A->Prop):Bn S A->Prop
 | .more s=>I s
 | .done a=>Q a
theorem VS{S:Type}{body:S->Option (Bn S α)}(I:Nat->S->Prop)(round:∀m s,I m s->BU (body s) (Bn.sat (λs'=>∃m',m'<m/\I m' s') Q)):
  ∀{m fuel:Nat} {s:S},I m s->m<fuel->BU (iter body fuel s) Q:=by
 intro m
 induction m using Nat.strongRecOn with
 | _ m O=>
  intro fuel s U aa;obtain⟨fuel,rfl⟩:∃k,fuel=k+1:=⟨fuel - 1,by omega⟩;obtain⟨st,V,K⟩:=round m s U;unfold Pal.iter;rw [V];cases st with
  | more s'=>
   obtain⟨m',Y,Z⟩:=K;exact O m' Y Z (by omega)
  | done a=>exact⟨a,rfl,K⟩
end
end Pal
namespace Pal
theorem Gu{S A:Type}{body:S->Option (Bn S A)}{Q:A->Prop}{K:S}{F:Nat}(n:Nat)(I:Nat->S->Prop)(V:I 0 K)(Z:n<F)
  (round:∀i s,i<n->I i s->BU (body s) (Bn.sat (I (i+1)) Q)) (last:∀s,I n s->BU (body s) (λst=>∃a,st= .done a/\Q a)):BU (Pal.iter body F K) Q:=by
 refine VS (λm s=>∃i,i<=n/\m=n - i/\I i s) ?_ (m:=n - 0) ⟨0,Nat.zero_le _,rfl,V⟩ (by omega);rintro m s ⟨i,hi,rfl,O⟩;rcases Nat.lt_or_ge i n with Y | aa
 ·refine(round i s Y O).Ag ?_;intro st U;cases st with
  | more s'=>exact⟨n - (i+1),by omega,i+1,by omega,rfl,U⟩
  | done a=>exact U
 ·obtain rfl:i=n:=by omega
  refine(last s O).Ag ?_;rintro st ⟨a,rfl,h⟩;exact h
theorem JV{α:Type}{o:Option α}{a:α}(h:BU o (λx=>x=a)):o=some a:=by obtain⟨x,K,rfl⟩:=h;exact K
theorem Ek{α:Type}{Q:α->Prop}{f:Int->Option α}{x:Int}(y:Int)(h:x=y)(K: -9223372036854775808<=y)(O:y<=9223372036854775807)(k:BU (f y) Q):BU ((Au x).bind f) Q:=by subst h;exact BU.Zl K O k
theorem BU.Nt{α β:Type}{Q:α->Prop}{f:List β->Option α}{xs ys:List β}(h:xs.length+ys.length<1000)(k:BU (f (xs++ys)) Q):BU ((Cr xs ys).bind f) Q:=Dr (by unfold Cr;rw [if_pos (by omega)]) k
abbrev Ib:=List Int×Int×Nat
def BG(k:Nat)(b:Ib):Prop:=0<=b.2.1/\b.2.1<=(k:Int)
theorem BG.Ag{k k':Nat}{b:Ib}(h:BG k b)(K:k<=k'):BG k' b:=⟨h.1,by have:=h.2;omega⟩
theorem Xl{F k:Nat}{b:Ib}(hb:BG k b)(K:k<1000000):BU (f83 F b) (λr=>r.1<2 ^ 64/\BG (k+1) r.2):=by
 obtain⟨O,U⟩:=hb;unfold f83;refine Ek (b.2.1+1) rfl (by omega) (by omega) ?_;have key:∀x:Nat,(x % 2 ^ 64)>>>11<2 ^ 64:=λx=>Nat.lt_of_le_of_lt (Nat.shiftRight_le _ _) (Nat.mod_lt _ (Nat.two_pow_pos 64));refine B5 (S:=λ_=>True) ?_ ?_
 ·refine Fx (λh=>?_) (λh=>?_)
  ·refine Ek b.2.1 (by omega) (by omega) (by omega) (Ff (m:=b.2.1.toNat) (by omega) (by omega) ?_);exact Bo trivial
  ·exact Bo trivial
 ·intro x _;exact Bo ⟨key _,by simp only;omega,by simp only;omega⟩
theorem UW{a:Nat}(h:a<2 ^ 62):LF a=(a:Int):=by
 unfold LF;exact I8 (by omega)
theorem KI{F k:Nat}{b:Ib}{m:Int}(hb:BG k b)(O:k<1000000)(hm:m<1000000):BU (f36 F b m) (λr=>0<=r.1/\(r.1<=m∨r.1=0)/\BG (k+1) r.2):=by
 unfold f36;refine B5 (Xl hb O) ?_;rintro⟨x,b'⟩ ⟨Y,K⟩;refine Fx (λh=>?_) (λh=>?_)
 ·exact Bo ⟨by simp,.inr rfl,K⟩
 ·have U:C6 m=m.toNat:=by unfold C6;omega
  have e2:(C6 m+1) % 2 ^ 64=m.toNat+1:=by rw [U];omega
  have V:x % (m.toNat+1)<m.toNat+1:=Nat.mod_lt _ (by omega);refine Dr (b:=x % (m.toNat+1)) (by rw [e2];unfold Nb;rw [if_neg (by omega)]) ?_;refine Bo ?_;simp only;generalize x % (m.toNat+1)=z at V ⊢;rw [UW (by omega)];exact⟨by omega,.inl (by omega),K⟩
theorem OF{F k:Nat}{b:Ib}{lo hi:Int}(hb:BG k b)(O:k<1000000)(V:0<=lo)(Y:lo<=hi)(Z:hi<1000):BU (f37 F b lo hi) (λr=>lo<=r.1/\r.1<=hi/\BG (k+1) r.2):=by
 unfold f37;refine Ek (hi - lo) rfl (by omega) (by omega) (B5 (KI hb O (by omega)) ?_);rintro⟨x,b'⟩ ⟨U,g2,K⟩;simp only at U g2 K ⊢;exact Ek (lo+x) rfl (by omega) (by omega) (Bo ⟨by simp only;omega,by simp only;omega,K⟩)
theorem SE{F k:Nat}{b:Ib}{m:Int}(hb:BG k b)(K:k<1000000)(U:1<=m)(V:m<1000):BU (f32 F b m) (λr=>BG (k+1) r.2):=by
 unfold f32;refine Ek (m - 1) rfl (by omega) (by omega) (B5 (KI hb K (by omega)) ?_);rintro⟨x,b'⟩ ⟨Y,g2,O⟩;exact Bo O
theorem SI{F k:Nat}{b:Ib}{l:List Int}(hb:BG k b)(U:k<1000000)(Y:0<l.length)(Z:l.length<1000):BU (f81 F b l) (λr=>r.1∈l/\BG (k+1) r.2):=by
 unfold f81;refine Ek ((l.length - 1:Nat):Int) (by omega) (by omega) (by omega) (B5 (KI hb U (by omega)) ?_);rintro⟨x,b'⟩ ⟨V,g2,K⟩;simp only at V g2 K ⊢;have O:x.toNat<l.length:=by omega
 exact Ff (m:=x.toNat) (by omega) O (Bo ⟨List.getElem_mem O,K⟩)
abbrev DT:=Int×Int×Int
abbrev OW:=A9×List DT
structure NV (n:Nat) (o:OW):Prop where
 l1:o.1.length<=n
 n1:∀x∈o.1,x.length<=n
 l2:o.2.length<=n
theorem NV.up{n m:Nat}{o:OW}(h:NV n o)(hm:n<=m):NV m o:=⟨Nat.le_trans h.l1 hm,λx K=>Nat.le_trans (h.n1 x K) hm,Nat.le_trans h.l2 hm⟩
theorem Sj{F:Nat}{l:A9}(aa:100<F)(ab:l.length<=40)(U:∀x∈l,x.length<=40):f68 F l=some l:=by
 refine JV ?_;unfold f68;refine Dr (b:=List.replicate l.length []) ?_ ?_
 ·unfold Jg;rw [if_pos (by omega)];rfl
 refine B5 (S:=λr=>r=l) ?_ (λr V=>Bo V);refine Gu l.length (λi s=>s.2=(i:Int)/\s.1=l.take i++List.replicate (l.length - i) []) ⟨rfl,by simp⟩ (by omega) ?_ ?_
 ·rintro i ⟨o,c⟩ hi ⟨K,O⟩;simp only at K O;subst K;subst O;unfold MR;refine Fy (by simp only;omega) (Ff (m:=i) rfl hi ?_);refine Dr (b:=l[i]) ?_ ?_
  ·unfold f104;have:Cr ([]:List Int) l[i]=some l[i]:=by unfold Cr;rw [if_pos (by have:=U _ (List.getElem_mem hi);simp;omega)];rfl
   rw [this];rfl
  have Y:(l.take i).length=i:=by rw [List.length_take];omega
  refine Ff (m:=i) rfl (by simp;omega) (Ek ((i+1:Nat):Int) (by simp) (by omega) (by omega) ?_);refine Bo ⟨rfl,?_⟩;simp only;rw [show Int.toNat (i:Int)=i by omega,List.set_append,if_neg (by omega),Y,Nat.sub_self];obtain⟨k,Z⟩:∃k,l.length - i=k+1:=⟨l.length - i - 1,by omega⟩;rw [Z,List.replicate_succ,List.set_cons_zero,List.take_add_one,List.getElem?_eq_getElem hi,show l.length - (i+1)=k by omega];simp only [Option.toList_some,List.append_assoc,List.cons_append,List.nil_append]
 ·rintro⟨o,c⟩ ⟨K,O⟩;simp only at K O;subst K;subst O;unfold MR;exact Ez (by simp) (Bo ⟨_,rfl,by simp⟩)
theorem Xz{F:Nat}{o:OW}(O:100<F)(K:NV 40 o):f21 F o=some o:=by
 unfold f21;have U:=K.l2;rw [Sj O K.l1 K.n1,Option.bind_some];unfold f69;have:Cr ([]:List DT) o.2=some o.2:=by unfold Cr;rw [if_pos (by simp;omega)];rfl
 rw [this];rfl
theorem Xd{F:Nat}{l:List Int}(K:100<F)(O:l.length<=40):f29 F l l=some true:=by
 refine JV ?_;unfold f29;refine B5 (S:=λq=>q=Sum.inr ()) ?_ (by rintro q rfl;exact Bo (by simp));refine Gu l.length (λi s=>s=(i:Int)) rfl (by omega) ?_ ?_
 ·rintro i s hi rfl;unfold MW;refine B5 (S:=λc=>c=true) (Fy (by omega) (Bo (decide_eq_true (by omega)))) ?_;rintro c rfl;refine Fy rfl (Ff (m:=i) rfl hi ?_);refine Ff (m:=i) rfl hi (Ez (by simp) ?_);exact Ek ((i+1:Nat):Int) (by simp) (by omega) (by omega) (Bo rfl)
 ·rintro s rfl;unfold MW;refine B5 (S:=λc=>c=false) (Ez (by omega) (Bo rfl)) ?_;rintro c rfl;exact Ez (by simp) (Bo ⟨_,rfl,rfl⟩)
theorem X9{F:Nat}{l:List DT}(K:100<F)(O:l.length<=40):f26 F l l=some true:=by
 refine JV ?_;unfold f26;refine B5 (S:=λq=>q=Sum.inr ()) ?_ (by rintro q rfl;exact Bo (by simp));refine Gu l.length (λi s=>s=(i:Int)) rfl (by omega) ?_ ?_
 ·rintro i s hi rfl;unfold MX;refine B5 (S:=λc=>c=true) (Fy (by omega) (Bo (decide_eq_true (by omega)))) ?_;rintro c rfl;refine Fy rfl (Ff (m:=i) rfl hi ?_);refine Ff (m:=i) rfl hi (Ez (by simp) ?_);exact Ek ((i+1:Nat):Int) (by simp) (by omega) (by omega) (Bo rfl)
 ·rintro s rfl;unfold MX;refine B5 (S:=λc=>c=false) (Ez (by omega) (Bo rfl)) ?_;rintro c rfl;exact Ez (by simp) (Bo ⟨_,rfl,rfl⟩)
theorem XF{F:Nat}{l:A9}(K:100<F)(U:l.length<=40)(O:∀x∈l,x.length<=40):f80 F l l=some true:=by
 refine JV ?_;unfold f80;refine B5 (S:=λq=>q=Sum.inr ()) ?_ (by rintro q rfl;exact Bo (by simp));refine Gu l.length (λi s=>s=(i:Int)) rfl (by omega) ?_ ?_
 ·rintro i s hi rfl;unfold MH;refine B5 (S:=λc=>c=true) (Fy (by omega) (Bo (decide_eq_true (by omega)))) ?_;rintro c rfl;refine Fy rfl (Ff (m:=i) rfl hi ?_);refine Ff (m:=i) rfl hi (Dr (Xd K (O _ (List.getElem_mem hi))) ?_);refine Ez (by simp) (Ek ((i+1:Nat):Int) (by simp) (by omega) (by omega) ?_);exact Bo rfl
 ·rintro s rfl;unfold MH;refine B5 (S:=λc=>c=false) (Ez (by omega) (Bo rfl)) ?_;rintro c rfl;exact Ez (by simp) (Bo ⟨_,rfl,rfl⟩)
theorem Sp{F:Nat}{o:OW}(K:100<F)(h:NV 40 o):f30 F o o=some true:=by
 refine JV ?_;unfold f30;refine Dr (XF K h.l1 h.n1) (B5 (S:=λc=>c=true) (Fy rfl (Dr (X9 K h.l2) (Bo rfl))) ?_);rintro c rfl;exact Bo rfl
theorem Xj{F:Nat}{o:OW}(Z:100<F):BU (f17 F o) (λr=>r=false->NV 20 o):=by
 unfold f17;refine B5 (S:=λc=>c=false->o.1.length<=20/\o.2.length<=20) ?_ ?_
 ·refine Fx (λh=>Bo (by simp)) (λh=>Bo λU=>?_);have:=of_decide_eq_false U;omega
 intro c V;refine Fx (λh=>Bo (by simp)) (λh=>?_);obtain⟨Y,g2⟩:=V (by simpa using h);refine B5 (S:=λq=>q=Sum.inl true∨(q=Sum.inr ()/\∀x∈o.1,x.length<=20)) ?_ ?_
 ·refine Gu o.1.length (λi s=>s=(i:Int)/\∀x∈o.1.take i,x.length<=20) ⟨rfl,by simp⟩ (by omega) ?_ ?_
  ·rintro i s hi ⟨rfl,O⟩;unfold MY;refine Fy (by omega) (Ff (m:=i) rfl hi ?_);refine Fx (λh=>Bo (.inl rfl)) (λh=>?_);refine Ek ((i+1:Nat):Int) (by simp) (by omega) (by omega) (Bo ⟨rfl,λx K=>?_⟩);rw [List.take_add_one,List.getElem?_eq_getElem hi] at K;simp only [Option.toList_some,List.mem_append,List.mem_singleton] at K;rcases K with K | rfl
   ·exact O x K
   ·omega
  ·rintro s ⟨rfl,O⟩;unfold MY;refine Ez (by omega) (Bo ⟨_,rfl,.inr ⟨rfl,λx K=>O x (by rw [List.take_length];exact K)⟩⟩)
 ·rintro q (rfl | ⟨rfl,h⟩)
  ·exact Bo (by simp)
  ·exact Bo λ_=>⟨Y,h,g2⟩
end Pal
namespace Pal
theorem MN(F:Nat)(a lo hi:Int):f92 F a lo hi=some (decide (lo<=a/\a<=hi)):=by
 unfold f92;by_cases h:lo<=a
 ·rw [if_pos h];simp [h]
 ·rw [if_neg h];simp [h]
theorem Yh(F:Nat)(d:DT)(n m:Int):f86 F d n m=f88 F n d m:=rfl
theorem So{F:Nat}{d:DT}{n:Nat}(K:n<1000):BU (f88 F (n:Int) d 9) (λ_=>True):=by
 unfold f88;refine Ek ((n:Int) - 1) rfl (by omega) (by omega) (Dr (MN _ _ _ _) ?_);refine B5 (S:=λ_=>True) ?_ ?_
 ·refine Fx (λ_=>Bo trivial) (λ_=>?_);refine Ek ((n:Int) - 1) rfl (by omega) (by omega) (Dr (MN _ _ _ _) ?_);exact Bo trivial
 ·intro c _;refine Fx (λ_=>Bo trivial) (λ_=>?_);refine Fx (λ_=>Bo trivial) (λ_=>?_);exact Dr (MN _ _ _ _) (Fx (λ_=>Bo trivial) (λ_=>Bo trivial))
theorem VJ{F:Nat}{o:OW}{i:Int}{l:List Int}(h:ix o.1 i=some l):MZ F l=KJ F o i:=by
 funext j;unfold MZ KJ;rw [h];rfl
theorem Vw(F:Nat)(o:OW):MK F o=KM F o:=by
 funext i;unfold MK KM;split
 ·rcases h:ix o.1 i with _ | l
  ·rfl
  ·simp only [Option.bind_some];rw [VJ h]
 ·rfl
theorem XT(F:Nat)(o:OW):f47 F o=f48 F o:=by
 unfold f47 f48;rw [Vw];rfl
theorem W1{F:Nat}{o:OW}(O:100<F)(h:NV 40 o):BU (f48 F o) (λ_=>True):=by
 unfold f48;have U:=h.l1;have V:=h.l2;refine Fx (λ_=>Bo trivial) (λY=>?_);refine Fx (λ_=>Bo trivial) (λg2=>?_);refine B5 (S:=λ_=>True) ?_ ?_
 ·refine Gu o.1.length (λi s=>s=(i:Int)) rfl (by omega) ?_ ?_
  ·rintro i s hi rfl;unfold KM;refine Fy (by omega) (Ff (m:=i) rfl hi ?_);have Z:=h.n1 _ (List.getElem_mem hi);refine Fx (λ_=>Bo trivial) (λaa=>?_);refine B5 (S:=λ_=>True) ?_ ?_
   ·refine Gu o.1[i].length (λj s=>s=(j:Int)) rfl (by omega) ?_ ?_
    ·rintro j s K rfl;unfold KJ;refine Ff (m:=i) rfl hi (Fy (by omega) ?_);refine Ff (m:=i) rfl hi (Ff (m:=j) rfl K ?_);refine Dr (MN _ _ _ _) (Fx (λ_=>Bo trivial) (λ_=>?_));exact Ek ((j+1:Nat):Int) (by simp) (by omega) (by omega) (Bo rfl)
    ·rintro s rfl;unfold KJ;exact Ff (m:=i) rfl hi (Ez (by omega) (Bo ⟨_,rfl,trivial⟩))
   ·rintro(r | ⟨⟩) _
    ·rw [Sum.elim_inl];exact Bo trivial
    ·rw [Sum.elim_inr];exact Ek ((i+1:Nat):Int) (by simp) (by omega) (by omega) (Bo rfl)
  ·rintro s rfl;unfold KM;exact Ez (by omega) (Bo ⟨_,rfl,trivial⟩)
 ·rintro(r | ⟨⟩) _
  ·rw [Sum.elim_inl];exact Bo trivial
  ·rw [Sum.elim_inr];refine Fx (λ_=>Bo trivial) (λg2=>?_);refine B5 (S:=λ_=>True) ?_ ?_
   ·refine Gu o.2.length (λi s=>s=(i:Int)) rfl (by omega) ?_ ?_
    ·rintro i s hi rfl;unfold MI;refine Fy (by omega) (Ff (m:=i) rfl hi ?_);refine B5 (So (by omega)) ?_;intro x _;refine Fx (λ_=>Bo trivial) (λ_=>?_);exact Ek ((i+1:Nat):Int) (by simp) (by omega) (by omega) (Bo rfl)
    ·rintro s rfl;unfold MI;exact Ez (by omega) (Bo ⟨_,rfl,trivial⟩)
   ·rintro(r | ⟨⟩) _
    ·rw [Sum.elim_inl];exact Bo trivial
    ·rw [Sum.elim_inr];exact Bo trivial
theorem W0{F:Nat}{o:OW}{d:DT}(Y:100<F)(h:NV 30 o):∃r,f41 F o d=some r/\f42 F o d=some r/\NV 40 r.1:=by
 have V:NV 40 ([],[]):=⟨by simp,λx K=>(by cases K),by simp⟩;have Z:=h.l1;have ae:=h.l2;obtain⟨x,K,_⟩:=W1 Y (h.up (m:=40) (by omega));unfold f41 f42;rw [XT,K];simp only [Option.bind_some];by_cases O:x≠0
 ·rw [if_pos O,if_pos O];exact⟨_,rfl,rfl,V⟩
 rw [if_neg O,if_neg O];by_cases g2:(o.2.length:Int)=8
 ·rw [if_pos g2,if_pos g2];exact⟨_,rfl,rfl,V⟩
 rw [if_neg g2,if_neg g2,Yh];obtain⟨y,aa,_⟩:=So (F:=F) (d:=d) (n:=o.1.length) (by omega);rw [aa];simp only [Option.bind_some];by_cases U:y≠0
 ·rw [if_pos U,if_pos U];exact⟨_,rfl,rfl,V⟩
 rw [if_neg U,if_neg U];have ab:Pal.iter (Lo F o) F ([],0)=some o.1:=by
  refine JV (Gu o.1.length (λi s=>s=(o.1.take i,(i:Int))) rfl (by omega) ?_ ?_)
  ·rintro i s hi rfl;unfold Lo;have ag:=h.n1 _ (List.getElem_mem hi);refine Fy (by simp only;omega) (Ff (m:=i) rfl hi ?_);refine Dr (b:=o.1[i]) ?_ ?_
   ·unfold f87 LB;have:Cr ([]:List Int) o.1[i]=some o.1[i]:=by unfold Cr;rw [if_pos (by simp;omega)];rfl
    rw [this];rfl
   refine BU.Nt (by simp only [List.length_take,List.length_cons,List.length_nil];omega) (Ek ((i+1:Nat):Int) (by simp) (by omega) (by omega) ?_);refine Bo ?_;rw [List.take_add_one,List.getElem?_eq_getElem hi];rfl
  ·rintro s rfl;unfold Lo;exact Ez (by simp) (Bo ⟨_,rfl,by simp⟩)
 have e2:Cr o.2 [d]=some (o.2++ [d]):=by unfold Cr;rw [if_pos (by simp;omega)]
 have ac:Cr ([]:List DT) o.2=some o.2:=by unfold Cr;rw [if_pos (by simp;omega)];rfl
 unfold f38;refine⟨((o.1,o.2++ [d]),0),?_,?_,⟨Nat.le_trans Z (by omega),λx K=>Nat.le_trans (h.n1 x K) (by omega),by simp;omega⟩⟩
 ·rw [ab];simp only [Option.bind_some];rw [e2];rfl
 ·rw [ac];simp only [Option.bind_some];rw [e2];rfl
theorem Si{F k n:Nat}{b:Ib}(hb:BG k b)(ac:k<900000)(ae:2<=n)(ag:n<900):BU (f40 F b (n:Int)) (λr=>BG (k+4) r.2):=by
 unfold f40;refine Ek ((n:Int) - 1) rfl (by omega) (by omega) (B5 (KI hb (by omega) (by omega)) ?_);rintro⟨x,ah⟩ ⟨Z,g2,K⟩;simp only at Z g2 K ⊢;refine B5 (OF K (by omega) (by omega) (by omega) (by omega)) ?_;rintro⟨x2,ai⟩ ⟨_,_,O⟩;simp only at O ⊢;refine B5 (SI O (by omega) (by simp) (by simp)) ?_;rintro⟨aj,ak⟩ ⟨_,U⟩;simp only at U ⊢;refine Ek ((n:Int) - 1) rfl (by omega) (by omega) (B5 (OF U (by omega) (by omega) (by omega) (by omega)) ?_);rintro⟨V,al⟩ ⟨aa,ab,Y⟩;simp only at aa ab Y ⊢;refine Ek (x+V) rfl (by omega) (by omega) (Dr (b:=(x+V).tmod n) (by unfold Nl;rw [if_neg (by omega)]) ?_);exact Bo Y
theorem X5{F k:Nat}{b:Ib}(ap:100<F)(hb:BG k b)(aq:k<1000):BU (f31 F b 5 6) (λr=>NV 10 r.1/\BG (k+100) r.2):=by
 unfold f31;refine B5 (OF hb (by omega) (by omega) (by omega) (by omega)) ?_;rintro⟨n,ar⟩ ⟨n1,am,ah⟩;simp only at n1 am ah ⊢;obtain⟨n,rfl⟩:∃m:Nat,n=(m:Int):=⟨n.toNat,by omega⟩;refine B5 (SE ah (by omega) (by omega) (by omega)) ?_;rintro⟨au,av⟩ g2;simp only at g2 ⊢;refine B5 (S:=λr=>r.2.2.2.length<=10/\(∀x∈r.2.2.2,x.length<=10)/\BG (k+30) (r.1,r.2.1,r.2.2.1)) ?_ ?_
 ·refine Gu n (λi s=>s.2.2.2.2=(i:Int)/\s.1.length=i/\(∀x∈s.1,x.length<=10)/\BG (k+2+5*i) (s.2.1,s.2.2.1,s.2.2.2.1)) ⟨rfl,rfl,by simp,g2⟩ (by omega) ?_ ?_
  ·rintro i ⟨ai,l,t,Y,c⟩ hi ⟨Z,ae,aa,K⟩;simp only at Z ae aa K;subst Z;unfold MQ;refine Fy (by simp only;omega) (B5 (KI K (by omega) (by omega)) ?_);rintro⟨c,aw⟩ ⟨c1,c2,ab⟩;simp only at c1 c2 ab ⊢;obtain⟨c,rfl⟩:∃m:Nat,c=(m:Int):=⟨c.toNat,by omega⟩;refine B5 (S:=λr=>r.1.length<=10/\BG (k+2+5*i+1+c) r.2) ?_ ?_
   ·refine Gu c (λj s=>s.2.2.2.2=((c - j:Nat):Int)/\s.2.2.2.1.length=j/\BG (k+2+5*i+1+j) (s.1,s.2.1,s.2.2.1)) ⟨rfl,rfl,ab⟩ (by omega) ?_ ?_
    ·rintro j ⟨l,t,Y,w,z⟩ an ⟨O,hw,K⟩;simp only at O hw K;subst O;unfold MM;refine Fy (by simp only;omega) (B5 (S:=λr=>r.1.length=j+1/\BG (k+2+5*i+1+(j+1)) r.2) ?_ ?_)
     ·refine Fx (λ_=>?_) (λ_=>?_)
      ·refine Oa (by simp only;omega) (Bo ⟨by simp [hw],K.Ag (by omega)⟩)
      ·refine B5 (SI K (by omega) (by simp) (by simp)) ?_;rintro⟨v,ao⟩ ⟨_,ac⟩;simp only at ac ⊢;refine Oa (by omega) (Bo ⟨by simp [hw],ac⟩)
     ·rintro⟨w',l',ay,az⟩ ⟨U,V⟩;simp only at U V ⊢;exact Ek ((c - (j+1):Nat):Int) (by omega) (by omega) (by omega) (Bo ⟨rfl,U,V⟩)
    ·rintro⟨l,t,Y,w,z⟩ ⟨O,hw,K⟩;simp only at O hw K;subst O;unfold MM;exact Ez (by simp) (Bo ⟨_,rfl,by simp only;omega,K⟩)
   ·rintro⟨w,ao⟩ ⟨U,V⟩;simp only at U V ⊢;refine Oa (by omega) (Ek ((i+1:Nat):Int) (by simp) (by omega) (by omega) ?_);refine Bo ⟨rfl,by simp [ae],λx ag=>?_,V.Ag (by omega)⟩;simp only [List.mem_append,List.mem_singleton] at ag;rcases ag with ag | rfl
    ·exact aa x ag
    ·exact U
  ·rintro⟨ai,l,t,Y,c⟩ ⟨Z,ae,aa,K⟩;simp only at Z ae aa K;subst Z;unfold MQ;exact Ez (by simp) (Bo ⟨_,rfl,by simp only;omega,aa,K.Ag (by omega)⟩)
 ·rintro⟨l,t,Y,ai⟩ ⟨aj,p2,ab⟩;simp only at aj p2 ab ⊢;refine B5 (KI ab (by omega) (by omega)) ?_;rintro⟨c,aA⟩ ⟨c1,c2,ac⟩;simp only at c1 c2 ac ⊢;obtain⟨c,rfl⟩:∃m:Nat,c=(m:Int):=⟨c.toNat,by omega⟩;refine B5 (S:=λr=>r.2.2.2.length<=10/\BG (k+100) (r.1,r.2.1,r.2.2.1)) ?_ ?_
  ·refine Gu c (λj s=>s.2.2.2.2=((c - j:Nat):Int)/\s.1.length=j/\BG (k+31+4*j) (s.2.1,s.2.2.1,s.2.2.2.1)) ⟨rfl,rfl,ac.Ag (by omega)⟩ (by omega) ?_ ?_
   ·rintro j ⟨ak,l,t,Y,z⟩ an ⟨O,hw,K⟩;simp only at O hw K;subst O;unfold MO;refine Fy (by simp only;omega) (B5 (Si K (by omega) (by omega) (by omega)) ?_);rintro⟨d,aB⟩ al;simp only at al ⊢;refine BU.Nt (by simp;omega) (Ek ((c - (j+1):Nat):Int) (by omega) (by omega) (by omega) ?_);exact Bo ⟨rfl,by simp [hw],al.Ag (by omega)⟩
   ·rintro⟨ak,l,t,Y,z⟩ ⟨O,hw,K⟩;simp only at O hw K;subst O;unfold MO;exact Ez (by simp) (Bo ⟨_,rfl,by simp only;omega,K.Ag (by omega)⟩)
  ·rintro⟨l,t,Y,ak⟩ ⟨U,V⟩;simp only at U V ⊢;exact Bo ⟨⟨aj,p2,U⟩,V⟩
theorem X7{F n:Nat}{o:OW}{d:DT}(h:NV n o)(K:n<100):BU (f38 F o d) (λr=>r=(o.1,o.2++ [d])):=by
 unfold f38;have O:=h.l2;refine BU.Nt (by simp;omega) (BU.Nt (by simp;omega) ?_);exact Bo rfl
theorem Yf{F k:Nat}{b:Ib}{o:OW}{d:DT}(V:100<F)(O:NV 20 o)(hb:BG k b)(Z:k<500):BU (f19 F o d b) (λr=>(∃a c,r.1= [o,a,c]/\NV 30 a/\NV 30 c)/\BG (k+101) r.2):=by
 unfold f19;refine B5 (X5 V hb (by omega)) ?_;rintro⟨a,aa⟩ ⟨K,Y⟩;simp only at K Y ⊢;refine B5 (X7 K (by omega)) ?_;rintro _ rfl;refine B5 (SE Y (by omega) (by omega) (by omega)) ?_;rintro⟨y,ab⟩ g2;simp only at g2 ⊢;have ac:=K.l2;refine B5 (S:=λr=>r.length<=20/\∀x∈r,x.length<=20) ?_ ?_
 ·refine Fx (λ_=>?_) (λ_=>?_)
  ·exact Dr (Sj V (O.up (m:=40) (by omega)).l1 (O.up (m:=40) (by omega)).n1) (Bo ⟨O.l1,O.n1⟩)
  ·exact Bo ⟨Nat.le_trans K.l1 (by omega),λx U=>Nat.le_trans (K.n1 x U) (by omega)⟩
 ·rintro r ⟨r1,r2⟩;exact Bo ⟨⟨a,_,rfl,K.up (by omega),⟨Nat.le_trans r1 (by omega),λx U=>Nat.le_trans (r2 x U) (by omega),by simp;omega⟩⟩,g2⟩
theorem WN{F i:Nat}(K:100<F){d U:DT}{os:List OW}{b Z:Ib}{l:List Int}{t:Int}{aa:Nat}(hi:i<os.length)(V:NV 30 os[i]):BU (Pal.iter (Lr F d (os,b) (l,t,aa,(i:Int)) (U,Z)) F 0) (λq=>q=Sum.inr ()):=by
 have Y:NV 40 os[i]:=V.up (by omega);refine Gu 2 (λj s=>s=(j:Int)) rfl (by omega) ?_ ?_
 ·rintro j s ag rfl;have O:∃x,[d,U][j]? =some x:=⟨_,List.getElem?_eq_getElem (by simp;omega)⟩;obtain⟨x,O⟩:=O;unfold Lr
  dsimp only;refine Fy (by simp only [List.length_cons,List.length_nil];omega) (Dr (KT (m:=i) rfl (List.getElem?_eq_getElem hi)) ?_);refine Dr (Xz K Y) (Dr (KT (m:=j) rfl O) ?_);obtain⟨r,ab,ac,ae⟩:=W0 (d:=x) K V;refine Dr ab (Dr (KT (m:=i) rfl (List.getElem?_eq_getElem hi)) ?_);refine Dr (KT (m:=j) rfl O) (Dr ac ?_);refine B5 (S:=λc=>c=false) (Ez (by simp) (Dr (Sp K ae) (Bo rfl))) ?_;rintro c rfl;refine B5 (S:=λc=>c=false) ?_ ?_
  ·refine Ez (by simp) (Dr (KT (m:=i) rfl (List.getElem?_eq_getElem hi)) ?_);exact Dr (Sp K Y) (Bo rfl)
  ·rintro c rfl;refine Ez (by simp) (Ek ((j+1:Nat):Int) (by simp) (by omega) (by omega) ?_);exact Bo rfl
 ·rintro s rfl;unfold Lr;exact Ez (by simp) (Bo ⟨_,rfl,rfl⟩)
theorem YY{F:Nat}(U:100<F)(Z:f18 F=some true)(o:OW)(d:DT)(Nq:List Int):f8 F o d Nq=some true:=by
 refine JV ?_;unfold f8;refine B5 (Xj U) ?_;intro c V;refine Fx (λ_=>Dr Z (Bo rfl)) (λh=>?_);have aa:=V (by simpa using h);refine Dr (b:=(Nq,0,2685821657736338717)) rfl (B5 (Yf (k:=0) (b:=(Nq,0,2685821657736338717)) U aa ⟨Int.le_refl _,Int.le_refl _⟩ (by omega)) ?_);rintro⟨os,b⟩ ⟨⟨a,c,e,ac,V⟩,hb⟩;simp only at e hb;have ae:∀x∈os,NV 30 x:=by
  intro x Y;rw [e] at Y;simp only [List.mem_cons,List.not_mem_nil,or_false] at Y;rcases Y with rfl | rfl | rfl
  ·exact aa.up (by omega)
  ·exact ac
  ·exact V
 have hlen:os.length=3:=by rw [e];rfl
 clear e
 dsimp only;refine B5 (S:=λq=>∃b,q=Sum.inr b) ?_ ?_
 ·refine Gu 3 (λi s=>s.2.2.2=(i:Int)/\BG (101+4*i) (s.1,s.2.1,s.2.2.1)) ⟨rfl,hb.Ag (by omega)⟩ (by omega) ?_ ?_
  ·rintro i ⟨l,t,ag,z⟩ hi ⟨K,O⟩;simp only at K O;subst K;unfold Ng
   dsimp only;refine Fy (by omega) (Ff (m:=i) rfl (by omega) ?_);obtain⟨n,ah,ai,aj⟩:∃n:Nat,max (2:Int) (min ((os[i].1.length:Nat):Int) 5)=(n:Int)/\2<=n/\n<900:=⟨max 2 (min os[i].1.length 5),by omega,by omega,by omega⟩;rw [ah];refine B5 (Si O (by omega) ai aj) ?_;rintro⟨ak,al⟩ ab;simp only at ab ⊢;refine B5 (WN U (by omega) (ae _ (List.getElem_mem (by omega)))) ?_;rintro q rfl;rw [Sum.elim_inr];exact Ek ((i+1:Nat):Int) (by simp) (by omega) (by omega) (Bo ⟨rfl,ab.Ag (by omega)⟩)
  ·rintro⟨l,t,ag,z⟩ ⟨K,O⟩;simp only at K O;subst K;unfold Ng;exact Ez (by simp only;omega) (Bo ⟨_,rfl,_,rfl⟩)
 ·rintro q ⟨b,rfl⟩;rw [Sum.elim_inr];exact Dr Z (Bo rfl)
end Pal
