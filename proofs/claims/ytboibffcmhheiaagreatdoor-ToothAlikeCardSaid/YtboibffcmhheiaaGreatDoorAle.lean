/- ToothAlike answers true for every list of numbers, on every schedule; without a condition beyond those of the given row and card. Part 5 of 8. -/
import Derived.Test.YtboibffcmhheiaaGreatDoorAlc
import Derived.Test.YtboibffcmhheiaaGreatDoorAld
set_option linter.all false
set_option maxRecDepth 100000
namespace Pal
open Go Go.Conc Go.Proofs
open Go.Proofs.Tryz
def f22(fuel:Nat):Option (Bool):=
 (f71 fuel).bind fun ag=>
 (f51 fuel ag 4).bind fun U=>
 (f71 fuel).bind fun ah=>
 (f57 fuel ah 5).bind fun W=>
 (f71 fuel).bind fun ai=>
 (f72 fuel).bind fun aj=>
 (f43 fuel ai aj 2).bind fun Z=>
 (f71 fuel).bind fun ak=>
 (f28 fuel ak ([])).bind fun aa=>
 (f71 fuel).bind fun al=>
 (f73 fuel).bind fun am=>
 (f49 fuel al am 1).bind fun ab=>
 (f71 fuel).bind fun an=>
 (f35 fuel an ([])).bind fun K=>
 (f71 fuel).bind fun ao=>
 (f72 fuel).bind fun ap=>
 (f72 fuel).bind fun aq=>
 (f37 fuel ao ap aq).bind fun ae=>
 (f71 fuel).bind fun ar=>
 (f73 fuel).bind fun au=>
 (f30 fuel ar au).bind fun O=>
 Option.bind (
  if U.2=0 then(
   some (decide (W.2=0))
  ) else(
   some false
  )
 ) fun av=>
 Option.bind (
  if av=true then(
   some (decide (Z.2=0))
  ) else(
   some false
  )
 ) fun aw=>
 Option.bind (
  if aw=true then(
   some (decide (aa.2=0))
  ) else(
   some false
  )
 ) fun ay=>
 Option.bind (
  if ay=true then(
   some (decide (ab.2=0))
  ) else(
   some false
  )
 ) fun az=>
 Option.bind (
  if az=true then(
   some (decide (K.2.2=0))
  ) else(
   some false
  )
 ) fun aA=>
 Option.bind (
  if aA=true then(
   some (decide (ae.2=0))
  ) else(
   some false
  )
 ) fun aB=>
 Option.bind (
  if aB=true then(
   some (decide (O.2.2=0))
  ) else(
   some false
  )
 ) fun aC=>
 Option.bind (
  if aC=true then(
   some (decide (W.1=3))
  ) else(
   some false
  )
 ) fun aD=>
 Option.bind (
  if aD=true then(
   some (decide (aa.1=15))
  ) else(
   some false
  )
 ) fun aE=>
 Option.bind (
  if aE=true then(
   some (decide (ab.1=1))
  ) else(
   some false
  )
 ) fun aF=>
 Option.bind (
  if aF=true then(
   some (decide (K.1=0))
  ) else(
   some false
  )
 ) fun aG=>
 Option.bind (
  if aG=true then(
   some (decide (K.2.1=9))
  ) else(
   some false
  )
 ) fun aH=>
 Option.bind (
  if aH=true then(
   some ae.1
  ) else(
   some false
  )
 ) fun aI=>
 Option.bind (
  if aI=true then(
   some (decide (O.1=3))
  ) else(
   some false
  )
 ) fun aJ=>
 Option.bind (
  if aJ=true then(
   (f32 fuel U.1 ([4,5]:List Int)).bind fun aK=>
   some aK
  ) else(
   some false
  )
 ) fun aL=>
 Option.bind (
  if aL=true then(
   (f32 fuel Z.1 ([2,3,4]:List Int)).bind fun aM=>
   some aM
  ) else(
   some false
  )
 ) fun aN=>
 Option.bind (
  if aN=true then(
   (f32 fuel O.2.1 ([3,4]:List Int)).bind fun aO=>
   some aO
  ) else(
   some false
  )
 ) fun aP=>
 some aP
theorem Sx{E:LH}{fuel:Nat}{r:Bool}(bu:f22 fuel=some r):As (CC Tryz.prog) 22 [] E [] (fun w E' B'=>w= .bool r∧B'= []):=by
 refine As.en func22 rfl rfl fun Q fY cs H cQ cR=>?_;unfold f22 at bu;obtain⟨fZ,cT,cV⟩:=bs bu;refine zg 6 rfl ?_;refine JS.cl (F5 cT) rfl rfl (Aw func71 rfl) cQ ?_;rintro _ ga _ cW ⟨gb,gc,gd,ge,rfl,rfl,cX,cY⟩ cZ;obtain⟨ab,c0,c1⟩:=bs cV;refine JS.cl (SJ cX cY c0) rfl rfl (Aw func51 rfl) cZ ?_;rintro _ gf _ c2 ⟨ah,ai,rfl,rfl,c3⟩ c4;obtain⟨gg,c5,c6⟩:=bs c1;refine zg 8 rfl ?_;refine JS.cl (F5 c5) rfl rfl (Aw func71 rfl) c4 ?_;rintro _ gh _ bv ⟨gi,gj,gk,gl,rfl,rfl,c7,c8⟩ c9;obtain⟨al,da,db⟩:=bs c6;refine JS.cl (SM c7 c8 da) rfl rfl (Aw func57 rfl) c9 ?_;rintro _ gm _ bw ⟨rfl,rfl⟩ dc;obtain⟨gn,dd,de⟩:=bs db;refine zg 8 rfl ?_;refine JS.cl (F5 dd) rfl rfl (Aw func71 rfl) dc ?_;rintro _ gp _ bx ⟨gq,gr,gt,gu,rfl,rfl,df,dg⟩ dh;obtain⟨gv,di,dj⟩:=bs de;refine JS.cl (KE di) rfl rfl (Aw func72 rfl) dh ?_;rintro _ gw _ aG ⟨gx,gy,rfl,rfl,dk⟩ dl;obtain⟨W,dm,dn⟩:=bs dj;refine JS.cl (SF (df.mono aG) (dg.mono aG) dk dm) rfl rfl (Aw func43 rfl) dl ?_;rintro _ gz _ bz ⟨ae,ag,rfl,rfl,dp⟩ dq;obtain⟨gA,dr,dt⟩:=bs dn;refine zg 8 rfl ?_;refine JS.cl (F5 dr) rfl rfl (Aw func71 rfl) dq ?_;rintro _ gB _ aY ⟨gC,gD,gE,gF,rfl,rfl,du,dv⟩ dw;obtain⟨ak,dx,dy⟩:=bs dt;refine JS.cl (SD du dv Ao.nil dx) rfl rfl (Aw func28 rfl) dw ?_;rintro _ gG _ aZ ⟨rfl,rfl⟩ dz;obtain⟨gH,dA,dB⟩:=bs dy;refine zg 8 rfl ?_;refine JS.cl (F5 dA) rfl rfl (Aw func71 rfl) dz ?_;rintro _ gI _ a0 ⟨gJ,gK,gL,gM,rfl,rfl,dC,dD⟩ dE;obtain⟨gN,dF,dG⟩:=bs dB;refine JS.cl (N6 dF) rfl rfl (Aw func73 rfl) dE ?_;rintro _ gO _ an ⟨gP,gQ,rfl,rfl,dH⟩ dI;obtain⟨aj,dJ,dK⟩:=bs dG;refine JS.cl (SC (dC.mono an) (dD.mono an) dH dJ) rfl rfl (Aw func49 rfl) dI ?_;rintro _ gR _ a1 ⟨rfl,rfl⟩ dL;obtain⟨gS,dM,dN⟩:=bs dK;refine zg 8 rfl ?_;refine JS.cl (F5 dM) rfl rfl (Aw func71 rfl) dL ?_;rintro _ gT _ a2 ⟨gU,gV,gW,gX,rfl,rfl,dO,dP⟩ dQ;obtain⟨O,dR,dS⟩:=bs dN;refine JS.cl (S5 dO dP Ao.nil dR) rfl rfl (Aw func35 rfl) dQ ?_;rintro _ gY _ a3 ⟨rfl,rfl⟩ dT;obtain⟨gZ,dU,dV⟩:=bs dS;refine zg 10 rfl ?_;refine JS.cl (F5 dU) rfl rfl (Aw func71 rfl) dT ?_;rintro _ g0 _ a4 ⟨g1,g2,g3,g4,rfl,rfl,dW,dX⟩ dY;obtain⟨g5,dZ,ea⟩:=bs dV;refine JS.cl (KE dZ) rfl rfl (Aw func72 rfl) dY ?_;rintro _ g6 _ ao ⟨g7,g8,rfl,rfl,eb⟩ ec;obtain⟨g9,ed,ee⟩:=bs ea;refine JS.cl (KE ed) rfl rfl (Aw func72 rfl) ec ?_;rintro _ ha _ am ⟨hb,hc,rfl,rfl,ef⟩ eg;obtain⟨U,eh,ei⟩:=bs ee;refine JS.cl (G8 (dW.mono (ao.trans am)) (dX.mono (ao.trans am)) (eb.mono am) ef eh) rfl rfl (Aw func37 rfl) eg ?_;rintro _ hd _ a5 ⟨rfl,rfl⟩ ej;obtain⟨he,ek,el⟩:=bs ei;refine zg 8 rfl ?_;refine JS.cl (F5 ek) rfl rfl (Aw func71 rfl) ej ?_;rintro _ hf _ a6 ⟨hg,hj,hk,hl,rfl,rfl,em,eo⟩ ep;obtain⟨hm,eq,er⟩:=bs el;refine JS.cl (N6 eq) rfl rfl (Aw func73 rfl) ep ?_;rintro _ hn _ ap ⟨ho,hp,rfl,rfl,et⟩ eu;obtain⟨K,ew,ex⟩:=bs er;refine JS.cl (SO (em.mono ap) (eo.mono ap) et ew) rfl rfl (Aw func30 rfl) eu ?_;rintro _ a7 _ a8 ⟨Z,aa,rfl,rfl,ey⟩ bA;obtain⟨bB,bC,ez⟩:=bs ex;refine zg 13 rfl ?_;refine JL.BM [6,7,8,9,10,11,12,13,14,15,16,17,18,19,20,21,22,23,24,25,26,27,28,29,30,31,32,33,34,35,36,37,38,39,40,41,42,43,44,45,46,47,48,49,50,51,52,53,54,55,56,57,58,59,60,61,62,63,64,65,66,67,68,69,70,71,72] (fun L s=>∃(aq:LH),Jm a7 H aq [] [(1,.slice ah (ab.1).length ai),(3,iV al.1),(5,.slice ae (W.1).length ag),(6,iV W.2),(7,iV ak.1),(8,iV ak.2),(9,iV aj.1),(10,iV aj.2),(11,iV O.1),(12,iV O.2.1),(13,iV O.2.2),(14,.bool U.1),(15,iV U.2),(16,iV K.1),(17,.slice Z (K.2.1).length aa),(18,iV K.2.2),(71,.bool bB)] L s) ?_ ?_
 ·rintro _ _ ⟨aq,rfl,rfl,aH,bD⟩;obtain⟨bE,bF,eA⟩:=bs ez;refine zg 1 rfl ?_;refine JL.BM [10,11,12,13,14,15,16,17,18,19,20,21,22,23,24,25,26,27,28,29,30,31,32,33,34,35,36,37,38,39,40,41,42,43,44,45,46,47,48,49,50,51,52,53,54,55,56,57,58,59,60,61,62,63,64,65,66,67,68,69,70,71,72] (fun L s=>∃(ar:LH),Jm aq H ar [] [(1,.slice ah (ab.1).length ai),(3,iV al.1),(5,.slice ae (W.1).length ag),(7,iV ak.1),(8,iV ak.2),(9,iV aj.1),(10,iV aj.2),(11,iV O.1),(12,iV O.2.1),(13,iV O.2.2),(14,.bool U.1),(15,iV U.2),(16,iV K.1),(17,.slice Z (K.2.1).length aa),(18,iV K.2.2),(75,.bool bE)] L s) ?_ ?_
  ·rintro _ _ ⟨ar,rfl,rfl,aI,bG⟩;obtain⟨bH,bI,eB⟩:=bs eA;refine zg 1 rfl ?_;refine JL.BM [14,15,16,17,18,19,20,21,22,23,24,25,26,27,28,29,30,31,32,33,34,35,36,37,38,39,40,41,42,43,44,45,46,47,48,49,50,51,52,53,54,55,56,57,58,59,60,61,62,63,64,65,66,67,68,69,70,71,72] (fun L s=>∃(au:LH),Jm ar H au [] [(1,.slice ah (ab.1).length ai),(3,iV al.1),(5,.slice ae (W.1).length ag),(7,iV ak.1),(9,iV aj.1),(10,iV aj.2),(11,iV O.1),(12,iV O.2.1),(13,iV O.2.2),(14,.bool U.1),(15,iV U.2),(16,iV K.1),(17,.slice Z (K.2.1).length aa),(18,iV K.2.2),(79,.bool bH)] L s) ?_ ?_
   ·rintro _ _ ⟨au,rfl,rfl,aJ,bJ⟩;obtain⟨bK,bL,eC⟩:=bs eB;refine zg 1 rfl ?_;refine JL.BM [18,19,20,21,22,23,24,25,26,27,28,29,30,31,32,33,34,35,36,37,38,39,40,41,42,43,44,45,46,47,48,49,50,51,52,53,54,55,56,57,58,59,60,61,62,63,64,65,66,67,68,69,70,71,72] (fun L s=>∃(av:LH),Jm au H av [] [(1,.slice ah (ab.1).length ai),(3,iV al.1),(5,.slice ae (W.1).length ag),(7,iV ak.1),(9,iV aj.1),(11,iV O.1),(12,iV O.2.1),(13,iV O.2.2),(14,.bool U.1),(15,iV U.2),(16,iV K.1),(17,.slice Z (K.2.1).length aa),(18,iV K.2.2),(83,.bool bK)] L s) ?_ ?_
    ·rintro _ _ ⟨av,rfl,rfl,aK,bM⟩;obtain⟨bN,bO,eD⟩:=bs eC;refine zg 1 rfl ?_;refine JL.BM [22,23,24,25,26,27,28,29,30,31,32,33,34,35,36,37,38,39,40,41,42,43,44,45,46,47,48,49,50,51,52,53,54,55,56,57,58,59,60,61,62,63,64,65,66,67,68,69,70,71,72] (fun L s=>∃(aw:LH),Jm av H aw [] [(1,.slice ah (ab.1).length ai),(3,iV al.1),(5,.slice ae (W.1).length ag),(7,iV ak.1),(9,iV aj.1),(11,iV O.1),(12,iV O.2.1),(14,.bool U.1),(15,iV U.2),(16,iV K.1),(17,.slice Z (K.2.1).length aa),(18,iV K.2.2),(87,.bool bN)] L s) ?_ ?_
     ·rintro _ _ ⟨aw,rfl,rfl,aL,bP⟩;obtain⟨bQ,bR,eE⟩:=bs eD;refine zg 1 rfl ?_;refine JL.BM [26,27,28,29,30,31,32,33,34,35,36,37,38,39,40,41,42,43,44,45,46,47,48,49,50,51,52,53,54,55,56,57,58,59,60,61,62,63,64,65,66,67,68,69,70,71,72] (fun L s=>∃(ay:LH),Jm aw H ay [] [(1,.slice ah (ab.1).length ai),(3,iV al.1),(5,.slice ae (W.1).length ag),(7,iV ak.1),(9,iV aj.1),(11,iV O.1),(12,iV O.2.1),(14,.bool U.1),(16,iV K.1),(17,.slice Z (K.2.1).length aa),(18,iV K.2.2),(91,.bool bQ)] L s) ?_ ?_
      ·rintro _ _ ⟨ay,rfl,rfl,aM,bS⟩;obtain⟨bT,bU,eF⟩:=bs eE;refine zg 1 rfl ?_;refine JL.BM [30,31,32,33,34,35,36,37,38,39,40,41,42,43,44,45,46,47,48,49,50,51,52,53,54,55,56,57,58,59,60,61,62,63,64,65,66,67,68,69,70,71,72] (fun L s=>∃(az:LH),Jm ay H az [] [(1,.slice ah (ab.1).length ai),(3,iV al.1),(5,.slice ae (W.1).length ag),(7,iV ak.1),(9,iV aj.1),(11,iV O.1),(12,iV O.2.1),(14,.bool U.1),(16,iV K.1),(17,.slice Z (K.2.1).length aa),(95,.bool bT)] L s) ?_ ?_
       ·rintro _ _ ⟨az,rfl,rfl,aN,bV⟩;obtain⟨bW,bX,eG⟩:=bs eF;refine zg 1 rfl ?_;refine JL.BM [34,35,36,37,38,39,40,41,42,43,44,45,46,47,48,49,50,51,52,53,54,55,56,57,58,59,60,61,62,63,64,65,66,67,68,69,70,71,72] (fun L s=>∃(aA:LH),Jm az H aA [] [(1,.slice ah (ab.1).length ai),(5,.slice ae (W.1).length ag),(7,iV ak.1),(9,iV aj.1),(11,iV O.1),(12,iV O.2.1),(14,.bool U.1),(16,iV K.1),(17,.slice Z (K.2.1).length aa),(99,.bool bW)] L s) ?_ ?_
        ·rintro _ _ ⟨aA,rfl,rfl,aO,bY⟩;obtain⟨bZ,b0,eH⟩:=bs eG;refine zg 1 rfl ?_;refine JL.BM [38,39,40,41,42,43,44,45,46,47,48,49,50,51,52,53,54,55,56,57,58,59,60,61,62,63,64,65,66,67,68,69,70,71,72] (fun L s=>∃(aB:LH),Jm aA H aB [] [(1,.slice ah (ab.1).length ai),(5,.slice ae (W.1).length ag),(9,iV aj.1),(11,iV O.1),(12,iV O.2.1),(14,.bool U.1),(16,iV K.1),(17,.slice Z (K.2.1).length aa),(103,.bool bZ)] L s) ?_ ?_
         ·rintro _ _ ⟨aB,rfl,rfl,aP,b1⟩;obtain⟨b2,b3,eI⟩:=bs eH;refine zg 1 rfl ?_;refine JL.BM [42,43,44,45,46,47,48,49,50,51,52,53,54,55,56,57,58,59,60,61,62,63,64,65,66,67,68,69,70,71,72] (fun L s=>∃(aC:LH),Jm aB H aC [] [(1,.slice ah (ab.1).length ai),(5,.slice ae (W.1).length ag),(11,iV O.1),(12,iV O.2.1),(14,.bool U.1),(16,iV K.1),(17,.slice Z (K.2.1).length aa),(107,.bool b2)] L s) ?_ ?_
          ·rintro _ _ ⟨aC,rfl,rfl,aQ,b4⟩;obtain⟨b5,b6,eJ⟩:=bs eI;refine zg 1 rfl ?_;refine JL.BM [46,47,48,49,50,51,52,53,54,55,56,57,58,59,60,61,62,63,64,65,66,67,68,69,70,71,72] (fun L s=>∃(aD:LH),Jm aC H aD [] [(1,.slice ah (ab.1).length ai),(5,.slice ae (W.1).length ag),(12,iV O.2.1),(14,.bool U.1),(16,iV K.1),(17,.slice Z (K.2.1).length aa),(111,.bool b5)] L s) ?_ ?_
           ·rintro _ _ ⟨aD,rfl,rfl,aR,b7⟩;obtain⟨b8,b9,eK⟩:=bs eJ;refine zg 1 rfl ?_;refine JL.BM [50,51,52,53,54,55,56,57,58,59,60,61,62,63,64,65,66,67,68,69,70,71,72] (fun L s=>∃(aE:LH),Jm aD H aE [] [(1,.slice ah (ab.1).length ai),(5,.slice ae (W.1).length ag),(14,.bool U.1),(16,iV K.1),(17,.slice Z (K.2.1).length aa),(115,.bool b8)] L s) ?_ ?_
            ·rintro _ _ ⟨aE,rfl,rfl,aS,ca⟩;obtain⟨cb,cc,eL⟩:=bs eK;refine zg 1 rfl ?_;refine JL.BM [53,54,55,56,57,58,59,60,61,62,63,64,65,66,67,68,69,70,71,72] (fun L s=>∃(aF:LH),Jm aE H aF [] [(1,.slice ah (ab.1).length ai),(5,.slice ae (W.1).length ag),(16,iV K.1),(17,.slice Z (K.2.1).length aa),(118,.bool cb)] L s) ?_ ?_
             ·rintro _ _ ⟨aF,rfl,rfl,aT,cd⟩;obtain⟨ce,cf,eM⟩:=bs eL;refine zg 1 rfl ?_;refine JL.BM [57,58,59,60,61,62,63,64,65,66,67,68,69,70,71,72] (fun L s=>∃(aU:LH),Jm aF H aU [] [(1,.slice ah (ab.1).length ai),(5,.slice ae (W.1).length ag),(17,.slice Z (K.2.1).length aa),(122,.bool ce)] L s) ?_ ?_
              ·rintro _ _ ⟨aU,rfl,rfl,aV,cg⟩;obtain⟨ci,ck,eN⟩:=bs eM;refine zg 1 rfl ?_;refine JL.BM [62,63,64,65,66,67,68,69,70,71,72] (fun L s=>∃(aW:LH),Jm aU H aW [] [(5,.slice ae (W.1).length ag),(17,.slice Z (K.2.1).length aa),(127,.bool ci)] L s) ?_ ?_
               ·rintro _ _ ⟨aW,rfl,rfl,a9,cm⟩;obtain⟨cn,co,eO⟩:=bs eN;refine zg 1 rfl ?_;refine JL.BM [67,68,69,70,71,72] (fun L s=>∃(aX:LH),Jm aW H aX [] [(17,.slice Z (K.2.1).length aa),(132,.bool cn)] L s) ?_ ?_
                ·rintro _ _ ⟨aX,rfl,rfl,cp,cq⟩;obtain⟨eP,cr,eQ⟩:=bs eO;refine zg 1 rfl ?_;refine JL.BM [72] (fun L s=>∃(ct:LH),Jm aX H ct [] [(137,.bool eP)] L s) ?_ ?_
                 ·rintro _ _ ⟨ct,rfl,rfl,eR,eS⟩;refine zg 2 rfl ?_;obtain rfl:=oi eQ;refine JL.rt func22 rfl rfl ?_;exact cR _ _ _ _ (((((((((((((((((((((((((((((((((((((cW.trans c2).trans bv).trans bw).trans bx).trans aG).trans bz).trans aY).trans aZ).trans a0).trans an).trans a1).trans a2).trans a3).trans a4).trans ao).trans am).trans a5).trans a6).trans ap).trans a8).trans aH).trans aI).trans aJ).trans aK).trans aL).trans aM).trans aN).trans aO).trans aP).trans aQ).trans aR).trans aS).trans aT).trans aV).trans a9).trans cp).trans eR) rfl ⟨rfl,rfl⟩ eS
                 ·intro cu;refine JL.Cb (c:=cn) (i:=133) rfl (fun ba=>?_) (fun ba=>?_)
                  ·have eT:=ip cr ba;refine zg 1 rfl ?_;refine JS.lit (pp:=rI) [iV 3,iV 4] [3,4] rfl rfl rfl underlying28 (Ag type3) (AN type3) (by decide) rfl rfl rfl ⟨rfl,rfl,trivial⟩ cq fun hq hr eU eV=>?_;refine JS.BO 0 eU eV rfl fun hu cv eW eX=>?_;obtain⟨hv,eY,eZ⟩:=bs eT;refine JS.cl (KB (ey.mono ((((((((((((((((aH.trans aI).trans aJ).trans aK).trans aL).trans aM).trans aN).trans aO).trans aP).trans aQ).trans aR).trans aS).trans aT).trans aV).trans a9).trans cp).trans cv)) eW eY) rfl rfl (Aw func32 rfl) eX ?_;rintro _ e0 _ e1 ⟨rfl,rfl⟩ e2;refine zg 1 rfl ?_;obtain rfl:=oi eZ;exact JL.kw (cu _ _ ⟨e0,rfl,rfl,(cv.trans e1),e2⟩) rfl
                  ·have e3:=ib cr ba;refine zg 4 rfl ?_;obtain rfl:=oi e3;exact JL.kw (cu _ _ ⟨aX,rfl,rfl,(Le.refl _),cq⟩) rfl
                ·intro cw;refine JL.Cb (c:=ci) (i:=128) rfl (fun bb=>?_) (fun bb=>?_)
                 ·have e4:=ip co bb;refine zg 1 rfl ?_;refine JS.lit (pp:=rI) [iV 2,iV 3,iV 4] [2,3,4] rfl rfl rfl underlying28 (Ag type3) (AN type3) (by decide) rfl rfl rfl ⟨rfl,rfl,rfl,trivial⟩ cm fun hw hx e5 e6=>?_;refine JS.BO 0 e5 e6 rfl fun hy cy e7 e8=>?_;obtain⟨hz,e9,fa⟩:=bs e4;refine JS.cl (KB (dp.mono (((((((((((((((((((((((((((((aY.trans aZ).trans a0).trans an).trans a1).trans a2).trans a3).trans a4).trans ao).trans am).trans a5).trans a6).trans ap).trans a8).trans aH).trans aI).trans aJ).trans aK).trans aL).trans aM).trans aN).trans aO).trans aP).trans aQ).trans aR).trans aS).trans aT).trans aV).trans a9).trans cy)) e7 e9) rfl rfl (Aw func32 rfl) e8 ?_;rintro _ fb _ fc ⟨rfl,rfl⟩ fe;refine zg 1 rfl ?_;obtain rfl:=oi fa;exact JL.kw (cw _ _ ⟨fb,rfl,rfl,(cy.trans fc),fe⟩) rfl
                 ·have ff:=ib co bb;refine zg 4 rfl ?_;obtain rfl:=oi ff;exact JL.kw (cw _ _ ⟨aW,rfl,rfl,(Le.refl _),cm⟩) rfl
               ·intro cz;refine JL.Cb (c:=ce) (i:=123) rfl (fun bc=>?_) (fun bc=>?_)
                ·have fg:=ip ck bc;refine zg 1 rfl ?_;refine JS.lit (pp:=rI) [iV 4,iV 5] [4,5] rfl rfl rfl underlying28 (Ag type3) (AN type3) (by decide) rfl rfl rfl ⟨rfl,rfl,trivial⟩ cg fun hA hB fh fj=>?_;refine JS.BO 0 fh fj rfl fun hC cA fk fm=>?_;obtain⟨hD,fo,fp⟩:=bs fg;refine JS.cl (KB (c3.mono (((((((((((((((((((((((((((((((((bv.trans bw).trans bx).trans aG).trans bz).trans aY).trans aZ).trans a0).trans an).trans a1).trans a2).trans a3).trans a4).trans ao).trans am).trans a5).trans a6).trans ap).trans a8).trans aH).trans aI).trans aJ).trans aK).trans aL).trans aM).trans aN).trans aO).trans aP).trans aQ).trans aR).trans aS).trans aT).trans aV).trans cA)) fk fo) rfl rfl (Aw func32 rfl) fm ?_;rintro _ fq _ fs ⟨rfl,rfl⟩ fu;refine zg 1 rfl ?_;obtain rfl:=oi fp;exact JL.kw (cz _ _ ⟨fq,rfl,rfl,(cA.trans fs),fu⟩) rfl
                ·have fv:=ib ck bc;refine zg 4 rfl ?_;obtain rfl:=oi fv;exact JL.kw (cz _ _ ⟨aU,rfl,rfl,(Le.refl _),cg⟩) rfl
              ·intro cB;refine JL.Cb (c:=cb) (i:=119) rfl (fun bd=>?_) (fun bd=>?_)
               ·have fw:=ip cf bd;refine zg 3 rfl ?_;obtain rfl:=oi fw;exact JL.kw (cB _ _ ⟨aF,rfl,rfl,(Le.refl _),cd⟩) rfl
               ·have fx:=ib cf bd;refine zg 3 rfl ?_;obtain rfl:=oi fx;exact JL.kw (cB _ _ ⟨aF,rfl,rfl,(Le.refl _),cd⟩) rfl
             ·intro cC;refine JL.Cb (c:=b8) (i:=116) rfl (fun bf=>?_) (fun bf=>?_)
              ·have fy:=ip cc bf;refine zg 2 rfl ?_;obtain rfl:=oi fy;exact JL.kw (cC _ _ ⟨aE,rfl,rfl,(Le.refl _),ca⟩) rfl
              ·have fz:=ib cc bf;refine zg 2 rfl ?_;obtain rfl:=oi fz;exact JL.kw (cC _ _ ⟨aE,rfl,rfl,(Le.refl _),ca⟩) rfl
            ·intro cD;refine JL.Cb (c:=b5) (i:=112) rfl (fun bg=>?_) (fun bg=>?_)
             ·have fA:=ip b9 bg;refine zg 3 rfl ?_;obtain rfl:=oi fA;exact JL.kw (cD _ _ ⟨aD,rfl,rfl,(Le.refl _),b7⟩) rfl
             ·have fB:=ib b9 bg;refine zg 3 rfl ?_;obtain rfl:=oi fB;exact JL.kw (cD _ _ ⟨aD,rfl,rfl,(Le.refl _),b7⟩) rfl
           ·intro cE;refine JL.Cb (c:=b2) (i:=108) rfl (fun bh=>?_) (fun bh=>?_)
            ·have fC:=ip b6 bh;refine zg 3 rfl ?_;obtain rfl:=oi fC;exact JL.kw (cE _ _ ⟨aC,rfl,rfl,(Le.refl _),b4⟩) rfl
            ·have fD:=ib b6 bh;refine zg 3 rfl ?_;obtain rfl:=oi fD;exact JL.kw (cE _ _ ⟨aC,rfl,rfl,(Le.refl _),b4⟩) rfl
          ·intro cF;refine JL.Cb (c:=bZ) (i:=104) rfl (fun bi=>?_) (fun bi=>?_)
           ·have fE:=ip b3 bi;refine zg 3 rfl ?_;obtain rfl:=oi fE;exact JL.kw (cF _ _ ⟨aB,rfl,rfl,(Le.refl _),b1⟩) rfl
           ·have fF:=ib b3 bi;refine zg 3 rfl ?_;obtain rfl:=oi fF;exact JL.kw (cF _ _ ⟨aB,rfl,rfl,(Le.refl _),b1⟩) rfl
         ·intro cG;refine JL.Cb (c:=bW) (i:=100) rfl (fun bj=>?_) (fun bj=>?_)
          ·have fG:=ip b0 bj;refine zg 3 rfl ?_;obtain rfl:=oi fG;exact JL.kw (cG _ _ ⟨aA,rfl,rfl,(Le.refl _),bY⟩) rfl
          ·have fH:=ib b0 bj;refine zg 3 rfl ?_;obtain rfl:=oi fH;exact JL.kw (cG _ _ ⟨aA,rfl,rfl,(Le.refl _),bY⟩) rfl
        ·intro cH;refine JL.Cb (c:=bT) (i:=96) rfl (fun bk=>?_) (fun bk=>?_)
         ·have fI:=ip bX bk;refine zg 3 rfl ?_;obtain rfl:=oi fI;exact JL.kw (cH _ _ ⟨az,rfl,rfl,(Le.refl _),bV⟩) rfl
         ·have fJ:=ib bX bk;refine zg 3 rfl ?_;obtain rfl:=oi fJ;exact JL.kw (cH _ _ ⟨az,rfl,rfl,(Le.refl _),bV⟩) rfl
       ·intro cI;refine JL.Cb (c:=bQ) (i:=92) rfl (fun bl=>?_) (fun bl=>?_)
        ·have fK:=ip bU bl;refine zg 3 rfl ?_;obtain rfl:=oi fK;exact JL.kw (cI _ _ ⟨ay,rfl,rfl,(Le.refl _),bS⟩) rfl
        ·have fL:=ib bU bl;refine zg 3 rfl ?_;obtain rfl:=oi fL;exact JL.kw (cI _ _ ⟨ay,rfl,rfl,(Le.refl _),bS⟩) rfl
      ·intro cJ;refine JL.Cb (c:=bN) (i:=88) rfl (fun bm=>?_) (fun bm=>?_)
       ·have fM:=ip bR bm;refine zg 3 rfl ?_;obtain rfl:=oi fM;exact JL.kw (cJ _ _ ⟨aw,rfl,rfl,(Le.refl _),bP⟩) rfl
       ·have fN:=ib bR bm;refine zg 3 rfl ?_;obtain rfl:=oi fN;exact JL.kw (cJ _ _ ⟨aw,rfl,rfl,(Le.refl _),bP⟩) rfl
     ·intro cK;refine JL.Cb (c:=bK) (i:=84) rfl (fun bn=>?_) (fun bn=>?_)
      ·have fO:=ip bO bn;refine zg 3 rfl ?_;obtain rfl:=oi fO;exact JL.kw (cK _ _ ⟨av,rfl,rfl,(Le.refl _),bM⟩) rfl
      ·have fP:=ib bO bn;refine zg 3 rfl ?_;obtain rfl:=oi fP;exact JL.kw (cK _ _ ⟨av,rfl,rfl,(Le.refl _),bM⟩) rfl
    ·intro cM;refine JL.Cb (c:=bH) (i:=80) rfl (fun bo=>?_) (fun bo=>?_)
     ·have fQ:=ip bL bo;refine zg 3 rfl ?_;obtain rfl:=oi fQ;exact JL.kw (cM _ _ ⟨au,rfl,rfl,(Le.refl _),bJ⟩) rfl
     ·have fR:=ib bL bo;refine zg 3 rfl ?_;obtain rfl:=oi fR;exact JL.kw (cM _ _ ⟨au,rfl,rfl,(Le.refl _),bJ⟩) rfl
   ·intro cN;refine JL.Cb (c:=bE) (i:=76) rfl (fun bp=>?_) (fun bp=>?_)
    ·have fS:=ip bI bp;refine zg 3 rfl ?_;obtain rfl:=oi fS;exact JL.kw (cN _ _ ⟨ar,rfl,rfl,(Le.refl _),bG⟩) rfl
    ·have fT:=ib bI bp;refine zg 3 rfl ?_;obtain rfl:=oi fT;exact JL.kw (cN _ _ ⟨ar,rfl,rfl,(Le.refl _),bG⟩) rfl
  ·intro cO;refine JL.Cb (c:=bB) (i:=72) rfl (fun bq=>?_) (fun bq=>?_)
   ·have fU:=ip bF bq;refine zg 3 rfl ?_;obtain rfl:=oi fU;exact JL.kw (cO _ _ ⟨aq,rfl,rfl,(Le.refl _),bD⟩) rfl
   ·have fV:=ib bF bq;refine zg 3 rfl ?_;obtain rfl:=oi fV;exact JL.kw (cO _ _ ⟨aq,rfl,rfl,(Le.refl _),bD⟩) rfl
 ·intro cP;refine JL.Cm (q:=ab.2=0) (i:=68) rfl (fun br=>?_) (fun br=>?_)
  ·have fW:=ip bC br;refine zg 3 rfl ?_;obtain rfl:=oi fW;exact JL.kw (cP _ _ ⟨a7,rfl,rfl,(Le.refl _),bA⟩) rfl
  ·have fX:=im bC br;refine zg 3 rfl ?_;obtain rfl:=oi fX;exact JL.kw (cP _ _ ⟨a7,rfl,rfl,(Le.refl _),bA⟩) rfl
end Pal
namespace Pal
open Go Go.Conc Go.Proofs
open Go.Proofs.Tryz
variable {J:Judge Tryz.prog}{E:LH}
def I3(fuel:Nat)(W:Int×(BK))(Z:(List (List Int))×(List (List Int))×(List Int)×Int×Nat×Int)(K:(List Int)×Int×Nat×(List Int)×Int):Option (A8 ((List Int)×Int×Nat×(List Int)×Int) ((List Int)×BK)):=
 Option.bind (
  if 0<K.2.2.2.2 then(
   some (decide (1<W.1))
  ) else(
   some false
  )
 ) fun ab=>
 if ab=true then(
  (Ay (Z.2.2.2.2.2 - 1)).bind fun ae=>
  (f41 fuel (K.1,K.2.1,K.2.2.1) (max (0) (ae))).bind fun aa=>
  (f97 fuel aa.2 6).bind fun O=>
  Option.bind (
   if O.1=true then(
    (Ay (W.1 - 1)).bind fun ag=>
    (f41 fuel O.2 ag).bind fun ah=>
    some ah
   ) else(
    some (aa.1,O.2.1,O.2.2.1,O.2.2.2)
   )
  ) fun U=>
  Option.bind (
   if U.1≠Z.2.2.2.2.2 then(
    (f98 fuel K.2.2.2.1 U.1).bind fun ai=>
    some ai
   ) else(
    some K.2.2.2.1
   )
  ) fun aj=>
  (Ay (K.2.2.2.2 - 1)).bind fun ak=>
  some (.more (U.2.1,U.2.2.1,U.2.2.2,aj,ak))
 ) else(
  some (.done (K.2.2.2.1,K.1,K.2.1,K.2.2.1))
 )
def I7(fuel:Nat)(O:Int×(BK))(K:(List (List Int))×(List (List Int))×(List Int)×Int×Nat×Int):Option (A8 ((List (List Int))×(List (List Int))×(List Int)×Int×Nat×Int) ((List Int)×Int×Nat×BD)):=
 if K.2.2.2.2.2<O.1 then(
  (Ay (O.1 - 1)).bind fun ag=>
  (Ay (K.2.2.2.2.2+1)).bind fun ah=>
  (f97 fuel (K.2.2.1,K.2.2.2.1,K.2.2.2.2.1) 3).bind fun U=>
  Option.bind (
   if U.1=true then(
    (Ay (O.1 - 1)).bind fun ak=>
    (f96 fuel U.2 K.2.2.2.2.2 ak).bind fun Z=>
    (f98 fuel ([min (ag) (ah)]:List Int) Z.1).bind fun al=>
    some (al,Z.2.1,Z.2.2.1,Z.2.2.2)
   ) else(
    some (([min (ag) (ah)]:List Int),U.2.1,U.2.2.1,U.2.2.2)
   )
  ) fun ai=>
  (f97 fuel ai.2 8).bind fun W=>
  Option.bind (
   if W.1=true then(
    (Ay (O.1 - 1)).bind fun am=>
    (f41 fuel W.2 am).bind fun aa=>
    some (([aa.1]:List Int),aa.2.1,aa.2.2.1,aa.2.2.2)
   ) else(
    some (ai.1,W.2.1,W.2.2.1,W.2.2.2)
   )
  ) fun aj=>
  (f99 fuel aj.2 ([0,1,1,2]:List Int)).bind fun ab=>
  Option.bind (iter (I3 fuel O K) fuel (ab.2.1,ab.2.2.1,ab.2.2.2,[],ab.1)) fun ae=>
  (CF K.1 ([aj.1]:List (List Int))).bind fun an=>
  (CF K.2.1 ([ae.1]:List (List Int))).bind fun ao=>
  (Ay (K.2.2.2.2.2+1)).bind fun ap=>
  some (.more (an,ao,ae.2.1,ae.2.2.1,ae.2.2.2,ap))
 ) else(
  some (.done (K.2.2.1,K.2.2.2.1,K.2.2.2.2.1,K.1,K.2.1))
 )
def f39(fuel:Nat)(p0:BK)(p1:Int):Option ((BD)×(BK)):=
 (f96 fuel p0 1 p1).bind fun K=>
 Option.bind (iter (I7 fuel K) fuel ([],[],K.2.1,K.2.2.1,K.2.2.2,0)) fun O=>
 some (O.2.2.2,(O.1,O.2.1,O.2.2.1))
theorem SB{O:Nat}{bU:Ar}{c2:Nat}{p0:BK}{p1:Int}(dm:Ao rI E bU c2 (p0.1)){fuel:Nat}{r:(BD)×(BK)}(bV:f39 fuel p0 p1=some r):As J 39 [.pointer (some ⟨O,0,none⟩),iV p1] E [(O,.cells #[.slice bU (p0.1).length c2,iV p0.2.1,.int .u64 ((p0.2.2:Nat):Int)] 92 (0,0))] (fun w E' B'=>∃(bW:Ar) (bX:Nat) (bY:Ar) (bZ:Nat) (b0:Ar) (b1:Nat),w= .agg #[.slice bW (r.1.1).length bX,.slice bY (r.1.2).length bZ]∧B'= [(O,.cells #[.slice b0 (r.2.1).length b1,iV r.2.2.1,.int .u64 ((r.2.2.2:Nat):Int)] 92 (0,0))]∧Ao (rL rI) E' bW bX (r.1.1)∧Ao (rL rI) E' bY bZ (r.1.2)∧Ao rI E' b0 b1 (r.2.1)):=by
 refine As.en func39 rfl rfl fun Q he cs H dn dp=>?_;unfold f39 at bV;refine zg 2 rfl ?_;refine JS.alloc rfl rfl rfl dn (AN type24) fun W dq=>?_;refine zg 3 rfl ?_;refine JS.alloc rfl rfl rfl dq (AN type24) fun U dr=>?_;obtain⟨an,dt,du⟩:=bs bV;refine zg 5 rfl ?_;refine JS.Bu 0 (KD dm dt) rfl rfl (Aw func96 rfl) dr rfl ?_;rintro _ bi _ dv ⟨b2,b3,rfl,rfl,dw⟩ dx;refine JS.norm (S':= [[(O,.cells #[.slice b2 (an.2.1).length b3,iV an.2.2.1,.int .u64 ((an.2.2.2:Nat):Int)] 92 (0,0))],[(W,.cells #[.slice none 0 0,.slice none 0 0] 24 (0,0))],[(U,.cells #[.slice none 0 0,.slice none 0 0] 24 (0,0))]]) rfl dx fun dy=>?_;obtain⟨aa,dz,dA⟩:=bs du;refine zg 7 rfl ?_;refine JL.join (fun L s=>∃(aT:LH) (aU:Ar) (aV:Nat) (ap:Ar) (aq:Nat) (bj:Seg) (ar:Ar) (au:Nat) (bk:Seg),Jn bi H aT [[(O,.cells #[.slice aU (aa.1).length aV,iV aa.2.1,.int .u64 ((aa.2.2.1:Nat):Int)] 92 (0,0))],[(W,.cells #[.slice none 0 0,.slice none 0 0] 24 (0,0))],[(U,.cells #[.slice ap (aa.2.2.2.1).length aq,.slice ar (aa.2.2.2.2).length au] 24 (0,0))],bj,bk] [(4,.pointer (some ⟨W,0,none⟩)),(5,.pointer (some ⟨U,0,none⟩))] L s (Ao rI aT aU aV (aa.1)∧OL 28 (rL rI) aT ap aq bj (aa.2.2.2.1)∧OL 28 (rL rI) aT ar au bk (aa.2.2.2.2))) ?_ ?_
 ·rintro _ _ ⟨aT,aU,aV,ap,aq,bj,ar,au,bk,rfl,rfl,dB,b4,dC,dD,dE⟩;refine zg 2 rfl ?_;refine JL.Y rfl (fun ρ h=>Yl.Bp (vs:= [.slice ap (aa.2.2.2.1).length aq,.slice ar (aa.2.2.2.2).length au]) (An underlying24) (Ag type24) (h _ _ rfl) (Ec (off:=0) 2 b4 rfl rfl)) ?_;refine JS.st (v:= .agg #[.slice ap (aa.2.2.2.1).length aq,.slice ar (aa.2.2.2.2).length au]) (off:=0) 1 b4 (Ag type24) rfl rfl rfl rfl fun dF=>?_;refine JL.done ?_;refine JS.BO 3 dD dF rfl fun hf bl dG dH=>?_;refine JS.BO 4 (dE.mono bl) dH rfl fun hg bm dI dJ=>?_;refine JS.norm (S':= [[(O,.cells #[.slice aU (aa.1).length aV,iV aa.2.1,.int .u64 ((aa.2.2.1:Nat):Int)] 92 (0,0))],[(W,.cells #[.slice ap (aa.2.2.2.1).length aq,.slice ar (aa.2.2.2.2).length au] 24 (0,0))],[(U,.cells #[.slice ap (aa.2.2.2.1).length aq,.slice ar (aa.2.2.2.2).length au] 24 (0,0))],[],[]]) rfl dJ fun dK=>?_;refine JS.drop 2 dK rfl fun b5=>?_;obtain rfl:=oi dA;refine JL.ret (v:= .agg #[.slice ap (aa.2.2.2.1).length aq,.slice ar (aa.2.2.2.2).length au]) rfl rfl (Bv.list func39 rfl (vs:= [.agg #[.slice ap (aa.2.2.2.1).length aq,.slice ar (aa.2.2.2.2).length au]]) ⟨⟨_,rfl,Ld.many (vs:= [.slice ap (aa.2.2.2.1).length aq,.slice ar (aa.2.2.2.2).length au]) (An underlying24) (Ag type24) (Ec (off:=0) 1 b5 rfl rfl)⟩,trivial⟩) ?_;refine Gk 1 b5 rfl fun dL=>?_;exact dp _ _ _ _ (((dv.trans dB).trans bl).trans bm) rfl ⟨ap,aq,ar,au,aU,aV,rfl,rfl,(dG.mono bm),dI,(dC.mono (bl.trans bm))⟩ dL
 ·intro dM;refine JL.block ?_;refine JL.wk [(0,.pointer (some ⟨O,0,none⟩)),(4,.pointer (some ⟨W,0,none⟩)),(5,.pointer (some ⟨U,0,none⟩)),(6,iV an.1),(7,iV 0)] rfl ?_;refine JL.Bq dz (fun L s K=>∃(aL:LH) (ab:Ar) (ae:Nat) (ai:Seg) (ag:Ar) (ah:Nat) (aj:Seg) (a2:Ar) (a3:Nat),Jn bi H aL [[(O,.cells #[.slice a2 (K.2.2.1).length a3,iV K.2.2.2.1,.int .u64 ((K.2.2.2.2.1:Nat):Int)] 92 (0,0))],[(W,.cells #[.slice none 0 0,.slice none 0 0] 24 (0,0))],[(U,.cells #[.slice ab (K.1).length ae,.slice ag (K.2.1).length ah] 24 (0,0))],ai,aj] [(0,.pointer (some ⟨O,0,none⟩)),(4,.pointer (some ⟨W,0,none⟩)),(5,.pointer (some ⟨U,0,none⟩)),(6,iV an.1),(7,iV K.2.2.2.2.2)] L s (OL 28 (rL rI) aL ab ae ai (K.1)∧OL 28 (rL rI) aL ag ah aj (K.2.1)∧Ao rI aL a2 a3 (K.2.2.1))) ⟨bi,none,0,[],none,0,[],b2,b3,rfl,rfl,(Le.refl _),dy,OL.nil,OL.nil,dw⟩ ?_;rintro _ _ K ⟨aL,ab,ae,ai,ag,ah,aj,a2,a3,rfl,rfl,a4,b6,a5,a6,b7⟩ dN ⟨hj,aW⟩ bn;have bo:=aW;unfold I7 at bo;refine zg 7 rfl ?_;refine JL.ifs (p:=K.2.2.2.2.2<an.1) rfl (fun bp=>?_) (fun bp=>?_)
  ·have dO:=ip bo bp;obtain⟨bq,dP,dQ⟩:=bs dO;refine zg 6 rfl ?_;refine JL.Y rfl (fun ρ h=>Yl.Ba (h _ _ rfl) (h _ _ rfl) dP) ?_;obtain⟨br,dR,dS⟩:=bs dQ;refine zg 1 rfl ?_;refine JL.Y rfl (fun ρ h=>Yl.A6 (h _ _ rfl) (h _ _ rfl) dR) ?_;refine JL.Y (v:=iV (min (bq) (br))) rfl (fun ρ h=>Yl.min2 (h _ _ rfl) (h _ _ rfl)) ?_;refine JS.lit (pp:=rI) [iV (min (bq) (br))] [min (bq) (br)] rfl rfl rfl underlying28 (Ag type3) (AN type3) (by decide) rfl rfl rfl ⟨rfl,trivial⟩ b6 fun dT dU b8 dV=>?_;obtain⟨a7,dW,dX⟩:=bs dS;refine zg 6 rfl ?_;refine JS.Bu 0 (HJ b7 dW) rfl rfl (Aw func97 rfl) dV rfl ?_;rintro _ dY _ av ⟨b9,ca,rfl,rfl,cb⟩ cc;obtain⟨aM,cd,dZ⟩:=bs dX;refine JL.done ?_;refine JL.join (fun L s=>∃(a8:LH) (a9:Ar) (ba:Nat) (bu:Ar) (bv:Nat),Jn dY H a8 [[(O,.cells #[.slice bu (aM.2.1).length bv,iV aM.2.2.1,.int .u64 ((aM.2.2.2:Nat):Int)] 92 (0,0))],[(W,.cells #[.slice none 0 0,.slice none 0 0] 24 (0,0))],[(U,.cells #[.slice ab (K.1).length ae,.slice ag (K.2.1).length ah] 24 (0,0))],ai,aj] [(0,.pointer (some ⟨O,0,none⟩)),(4,.pointer (some ⟨W,0,none⟩)),(5,.pointer (some ⟨U,0,none⟩)),(6,iV an.1),(7,iV K.2.2.2.2.2),(8,.slice a9 (aM.1).length ba)] L s (Ao rI a8 a9 ba (aM.1)∧Ao rI a8 bu bv (aM.2.1))) ?_ ?_
   ·rintro _ _ ⟨a8,a9,ba,bu,bv,rfl,rfl,aC,ea,eb,ec⟩;obtain⟨bb,ed,ee⟩:=bs dZ;refine zg 4 rfl ?_;refine JS.Bu 0 (HJ ec ed) rfl rfl (Aw func97 rfl) ea rfl ?_;rintro _ ce _ aB ⟨cf,cg,rfl,rfl,ci⟩ ef;refine JS.norm (S':= [[(O,.cells #[.slice cf (bb.2.1).length cg,iV bb.2.2.1,.int .u64 ((bb.2.2.2:Nat):Int)] 92 (0,0))],[(W,.cells #[.slice none 0 0,.slice none 0 0] 24 (0,0))],[(U,.cells #[.slice ab (K.1).length ae,.slice ag (K.2.1).length ah] 24 (0,0))],ai,aj]) rfl ef fun ck=>?_;obtain⟨al,cm,eg⟩:=bs ee;refine JL.done ?_;refine JL.join (fun L s=>∃(bc:LH) (aw:Ar) (ay:Nat) (bw:Ar) (bx:Nat),Jn ce H bc [[(O,.cells #[.slice bw (al.2.1).length bx,iV al.2.2.1,.int .u64 ((al.2.2.2:Nat):Int)] 92 (0,0))],[(W,.cells #[.slice none 0 0,.slice none 0 0] 24 (0,0))],[(U,.cells #[.slice ab (K.1).length ae,.slice ag (K.2.1).length ah] 24 (0,0))],ai,aj] [(0,.pointer (some ⟨O,0,none⟩)),(4,.pointer (some ⟨W,0,none⟩)),(5,.pointer (some ⟨U,0,none⟩)),(6,iV an.1),(7,iV K.2.2.2.2.2),(8,.slice aw (al.1).length ay)] L s (Ao rI bc aw ay (al.1)∧Ao rI bc bw bx (al.2.1))) ?_ ?_
    ·rintro _ _ ⟨bc,aw,ay,bw,bx,rfl,rfl,aD,eh,cn,ei⟩;refine zg 8 rfl ?_;refine JS.lit (pp:=rI) [iV 0,iV 1,iV 1,iV 2] [0,1,1,2] rfl rfl rfl underlying28 (Ag type3) (AN type3) (by decide) rfl rfl rfl ⟨rfl,rfl,rfl,rfl,trivial⟩ eh fun hk hl ej ek=>?_;refine JS.BO 5 ej ek rfl fun hm ao el em=>?_;obtain⟨bd,eo,ep⟩:=bs eg;refine JS.Bu 0 (Jg (ei.mono ao) el eo) rfl rfl (Aw func99 rfl) em rfl ?_;rintro _ bz _ az ⟨co,cp,rfl,rfl,eq⟩ er;refine JS.norm (S':= [[(O,.cells #[.slice co (bd.2.1).length cp,iV bd.2.2.1,.int .u64 ((bd.2.2.2:Nat):Int)] 92 (0,0))],[(W,.cells #[.slice none 0 0,.slice none 0 0] 24 (0,0))],[(U,.cells #[.slice ab (K.1).length ae,.slice ag (K.2.1).length ah] 24 (0,0))],ai,aj,[]]) rfl er fun et=>?_;obtain⟨Z,eu,ew⟩:=bs ep;refine zg 2 rfl ?_;refine JL.join (fun L s=>∃(aG:LH) (aN:Ar) (aO:Nat) (aE:Ar) (aF:Nat),Jn bz H aG [[(O,.cells #[.slice aE (Z.2.1).length aF,iV Z.2.2.1,.int .u64 ((Z.2.2.2:Nat):Int)] 92 (0,0))],[(W,.cells #[.slice none 0 0,.slice none 0 0] 24 (0,0))],[(U,.cells #[.slice ab (K.1).length ae,.slice ag (K.2.1).length ah] 24 (0,0))],ai,aj] [(0,.pointer (some ⟨O,0,none⟩)),(4,.pointer (some ⟨W,0,none⟩)),(5,.pointer (some ⟨U,0,none⟩)),(6,iV an.1),(7,iV K.2.2.2.2.2),(8,.slice aw (al.1).length ay),(9,.slice aN (Z.1).length aO)] L s (Ao rI aG aN aO (Z.1)∧Ao rI aG aE aF (Z.2.1))) ?_ ?_
     ·rintro _ _ ⟨aG,aN,aO,aE,aF,rfl,rfl,aA,aX,bA,bB⟩;refine JG.Cn 11 [U] ⟨⟨2,_,rfl⟩,trivial⟩ aX mixed rfl (by decide+kernel) fun ht=>?_;refine JG.fd 0 ht underlying24 (Ag type22) rfl rfl rfl rfl ?_;refine JG.V (v:= .slice ab (K.1).length ae) 1 ht rfl rfl (fun ρ h s' hs=>Yl.load (An underlying22) (h _ _ rfl) (Bh (o:=0) 2 aX rfl (by simp [AA]) hs rfl)) ?_;refine JG.mv 2 ht rfl rfl ?_;refine JG.fd 5 ht underlying24 (Ag type22) rfl rfl rfl rfl ?_;refine JG.V (v:= .slice ag (K.2.1).length ah) 6 ht rfl rfl (fun ρ h s' hs=>Yl.load (An underlying22) (h _ _ rfl) (Bh (o:=1) 2 aX rfl (by simp [AA]) hs rfl)) ?_;refine JG.mv 7 ht rfl rfl ?_;obtain⟨aP,bC,ex⟩:=bs ew;obtain⟨aQ,bD,bE⟩:=bs ex;refine JG.two (i:=3) (j:=8) rfl (by decide+kernel) ?_ ?_
      ·refine Take.lit (pp:=(rL rI)) (jp:=2) [.slice aw (al.1).length ay] ([al.1]:List (List Int)) aX rfl rfl rfl rfl underlying22 (Ag type28) (AN type28) (by decide) rfl rfl rfl ⟨⟨_,_,rfl,(cn.mono ((ao.trans az).trans aA))⟩,trivial⟩ fun hn cq cr ct=>?_;refine JG.two (i:=4) (j:=8) rfl (by decide+kernel) ?_ ?_
       ·refine Take.app (pp:=(rL rI)) (jp:=2) 3 5 ct rfl bC rfl rfl rfl rfl rfl rfl rfl underlying22 underlying22 (Ag type28) (CJ type28) (AN type28) rfl (by decide) (by decide) (a5.mono ((((((av.trans aC).trans aB).trans aD).trans ao).trans az).trans aA)) cr rfl rfl rfl rfl fun cu cv ho cw ey ez=>?_;refine JG.fd 10 ht underlying24 (Ag type22) rfl rfl rfl rfl ?_;refine JG.one (i:=8) rfl (by decide+kernel) ?_;refine Take.lit (pp:=(rL rI)) (jp:=2) [.slice aN (Z.1).length aO] ([Z.1]:List (List Int)) ez rfl rfl rfl rfl underlying22 (Ag type28) (AN type28) (by decide) rfl rfl rfl ⟨⟨_,_,rfl,bA⟩,trivial⟩ fun hp eA eB eC=>?_;refine JG.one (i:=9) rfl (by decide+kernel) ?_;refine Take.app (pp:=(rL rI)) (jp:=2) 4 6 eC rfl bD rfl rfl rfl rfl rfl rfl rfl underlying22 underlying22 (Ag type28) (CJ type28) (AN type28) rfl (by decide) (by decide) (a6.mono ((((((av.trans aC).trans aB).trans aD).trans ao).trans az).trans aA)) eB rfl rfl rfl rfl fun cy cz hq cA eD eE=>?_;refine Au.leaf (tail:= [11,12,13]) (by decide+kernel) (fun t=>A7 (by decide+kernel) (A7 (by decide+kernel) (A7 (by decide+kernel) BU)) t) ?_;refine JS.part 3 rfl eE fun eF=>?_;refine JS.drop 3 eF rfl fun eG=>?_;refine JS.part 4 rfl eG fun eH=>?_;refine JS.drop 4 eH rfl fun eI=>?_;refine JS.norm (S':= [[(O,.cells #[.slice aE (Z.2.1).length aF,iV Z.2.2.1,.int .u64 ((Z.2.2.2:Nat):Int)] 92 (0,0))],[(W,.cells #[.slice none 0 0,.slice none 0 0] 24 (0,0))],[(U,.cells #[.slice ab (K.1).length ae,.slice ag (K.2.1).length ah] 24 (0,0))],[],[],cq,eA,cw,cA]) rfl eI fun eJ=>?_;refine JS.st (v:= .slice cu (aP).length cv) (off:=0) 2 eJ (Ag type22) rfl rfl rfl rfl fun eK=>?_;refine JL.fd underlying24 (Ag type22) rfl rfl rfl ?_;refine JS.st (v:= .slice cy (aQ).length cz) (off:=1) 2 eK (Ag type22) rfl rfl rfl rfl fun eL=>?_;obtain⟨eM,eN,eO⟩:=bs bE;refine zg 4 rfl ?_;refine JL.Y rfl (fun ρ h=>Yl.A6 (h _ _ rfl) (h _ _ rfl) eN) ?_;refine zg 2 rfl ?_;refine JS.drop 5 eL rfl fun eP=>?_;refine JS.drop 6 eP rfl fun eQ=>?_;obtain rfl:=oi eO;exact JL.kw (bn _ _ (aP,aQ,Z.2.1,Z.2.2.1,Z.2.2.2,eM) ⟨aG,cu,cv,cw,cy,cz,cA,aE,aF,rfl,rfl,(((((((a4.trans av).trans aC).trans aB).trans aD).trans ao).trans az).trans aA),eQ,ey,eD,bB⟩ aW) rfl
       ·refine Take.lit (pp:=(rL rI)) (jp:=2) [.slice aN (Z.1).length aO] ([Z.1]:List (List Int)) ct rfl rfl rfl rfl underlying22 (Ag type28) (AN type28) (by decide) rfl rfl rfl ⟨⟨_,_,rfl,bA⟩,trivial⟩ fun hr eR eS eT=>?_;refine JG.one (i:=4) rfl (by decide+kernel) ?_;refine Take.app (pp:=(rL rI)) (jp:=2) 3 5 eT rfl bC rfl rfl rfl rfl rfl rfl rfl underlying22 underlying22 (Ag type28) (CJ type28) (AN type28) rfl (by decide) (by decide) (a5.mono ((((((av.trans aC).trans aB).trans aD).trans ao).trans az).trans aA)) cr rfl rfl rfl rfl fun cB cC hu cD eU eV=>?_;refine JG.fd 10 ht underlying24 (Ag type22) rfl rfl rfl rfl ?_;refine JG.one (i:=9) rfl (by decide+kernel) ?_;refine Take.app (pp:=(rL rI)) (jp:=2) 4 6 eV rfl bD rfl rfl rfl rfl rfl rfl rfl underlying22 underlying22 (Ag type28) (CJ type28) (AN type28) rfl (by decide) (by decide) (a6.mono ((((((av.trans aC).trans aB).trans aD).trans ao).trans az).trans aA)) eS rfl rfl rfl rfl fun cE cF hv cG eW eX=>?_;refine Au.leaf (tail:= [11,12,13]) (by decide+kernel) (fun t=>A7 (by decide+kernel) (A7 (by decide+kernel) (A7 (by decide+kernel) BU)) t) ?_;refine JS.part 3 rfl eX fun eY=>?_;refine JS.drop 3 eY rfl fun eZ=>?_;refine JS.part 4 rfl eZ fun e0=>?_;refine JS.drop 4 e0 rfl fun e1=>?_;refine JS.norm (S':= [[(O,.cells #[.slice aE (Z.2.1).length aF,iV Z.2.2.1,.int .u64 ((Z.2.2.2:Nat):Int)] 92 (0,0))],[(W,.cells #[.slice none 0 0,.slice none 0 0] 24 (0,0))],[(U,.cells #[.slice ab (K.1).length ae,.slice ag (K.2.1).length ah] 24 (0,0))],[],[],cq,eR,cD,cG]) rfl e1 fun e2=>?_;refine JS.st (v:= .slice cB (aP).length cC) (off:=0) 2 e2 (Ag type22) rfl rfl rfl rfl fun e3=>?_;refine JL.fd underlying24 (Ag type22) rfl rfl rfl ?_;refine JS.st (v:= .slice cE (aQ).length cF) (off:=1) 2 e3 (Ag type22) rfl rfl rfl rfl fun e4=>?_;obtain⟨e5,e6,e7⟩:=bs bE;refine zg 4 rfl ?_;refine JL.Y rfl (fun ρ h=>Yl.A6 (h _ _ rfl) (h _ _ rfl) e6) ?_;refine zg 2 rfl ?_;refine JS.drop 5 e4 rfl fun e8=>?_;refine JS.drop 6 e8 rfl fun e9=>?_;obtain rfl:=oi e7;exact JL.kw (bn _ _ (aP,aQ,Z.2.1,Z.2.2.1,Z.2.2.2,e5) ⟨aG,cB,cC,cD,cE,cF,cG,aE,aF,rfl,rfl,(((((((a4.trans av).trans aC).trans aB).trans aD).trans ao).trans az).trans aA),e9,eU,eW,bB⟩ aW) rfl
      ·refine Take.lit (pp:=(rL rI)) (jp:=2) [.slice aN (Z.1).length aO] ([Z.1]:List (List Int)) aX rfl rfl rfl rfl underlying22 (Ag type28) (AN type28) (by decide) rfl rfl rfl ⟨⟨_,_,rfl,bA⟩,trivial⟩ fun hw fa fb fc=>?_;refine JG.one (i:=3) rfl (by decide+kernel) ?_;refine Take.lit (pp:=(rL rI)) (jp:=2) [.slice aw (al.1).length ay] ([al.1]:List (List Int)) fc rfl rfl rfl rfl underlying22 (Ag type28) (AN type28) (by decide) rfl rfl rfl ⟨⟨_,_,rfl,(cn.mono ((ao.trans az).trans aA))⟩,trivial⟩ fun hx fe ff fg=>?_;refine JG.one (i:=4) rfl (by decide+kernel) ?_;refine Take.app (pp:=(rL rI)) (jp:=2) 3 6 fg rfl bC rfl rfl rfl rfl rfl rfl rfl underlying22 underlying22 (Ag type28) (CJ type28) (AN type28) rfl (by decide) (by decide) (a5.mono ((((((av.trans aC).trans aB).trans aD).trans ao).trans az).trans aA)) ff rfl rfl rfl rfl fun cH cI hy cJ fh fj=>?_;refine JG.fd 10 ht underlying24 (Ag type22) rfl rfl rfl rfl ?_;refine JG.one (i:=9) rfl (by decide+kernel) ?_;refine Take.app (pp:=(rL rI)) (jp:=2) 4 5 fj rfl bD rfl rfl rfl rfl rfl rfl rfl underlying22 underlying22 (Ag type28) (CJ type28) (AN type28) rfl (by decide) (by decide) (a6.mono ((((((av.trans aC).trans aB).trans aD).trans ao).trans az).trans aA)) fb rfl rfl rfl rfl fun cK cM hz cN fk fm=>?_;refine Au.leaf (tail:= [11,12,13]) (by decide+kernel) (fun t=>A7 (by decide+kernel) (A7 (by decide+kernel) (A7 (by decide+kernel) BU)) t) ?_;refine JS.part 3 rfl fm fun fo=>?_;refine JS.drop 3 fo rfl fun fp=>?_;refine JS.part 4 rfl fp fun fq=>?_;refine JS.drop 4 fq rfl fun fs=>?_;refine JS.norm (S':= [[(O,.cells #[.slice aE (Z.2.1).length aF,iV Z.2.2.1,.int .u64 ((Z.2.2.2:Nat):Int)] 92 (0,0))],[(W,.cells #[.slice none 0 0,.slice none 0 0] 24 (0,0))],[(U,.cells #[.slice ab (K.1).length ae,.slice ag (K.2.1).length ah] 24 (0,0))],[],[],fa,fe,cJ,cN]) rfl fs fun fu=>?_;refine JS.st (v:= .slice cH (aP).length cI) (off:=0) 2 fu (Ag type22) rfl rfl rfl rfl fun fv=>?_;refine JL.fd underlying24 (Ag type22) rfl rfl rfl ?_;refine JS.st (v:= .slice cK (aQ).length cM) (off:=1) 2 fv (Ag type22) rfl rfl rfl rfl fun fw=>?_;obtain⟨fx,fy,fz⟩:=bs bE;refine zg 4 rfl ?_;refine JL.Y rfl (fun ρ h=>Yl.A6 (h _ _ rfl) (h _ _ rfl) fy) ?_;refine zg 2 rfl ?_;refine JS.drop 5 fw rfl fun fA=>?_;refine JS.drop 6 fA rfl fun fB=>?_;obtain rfl:=oi fz;exact JL.kw (bn _ _ (aP,aQ,Z.2.1,Z.2.2.1,Z.2.2.2,fx) ⟨aG,cH,cI,cJ,cK,cM,cN,aE,aF,rfl,rfl,(((((((a4.trans av).trans aC).trans aB).trans aD).trans ao).trans az).trans aA),fB,fh,fk,bB⟩ aW) rfl
     ·intro fC;refine JL.block ?_;refine JL.wk [(0,.pointer (some ⟨O,0,none⟩)),(4,.pointer (some ⟨W,0,none⟩)),(5,.pointer (some ⟨U,0,none⟩)),(6,iV an.1),(7,iV K.2.2.2.2.2),(8,.slice aw (al.1).length ay),(9,.slice none 0 0),(10,iV bd.1)] rfl ?_;refine JL.Bq eu (fun L s ak=>∃(aH:LH) (aY:Ar) (aZ:Nat) (aI:Ar) (aJ:Nat),Jn bz H aH [[(O,.cells #[.slice aY (ak.1).length aZ,iV ak.2.1,.int .u64 ((ak.2.2.1:Nat):Int)] 92 (0,0))],[(W,.cells #[.slice none 0 0,.slice none 0 0] 24 (0,0))],[(U,.cells #[.slice ab (K.1).length ae,.slice ag (K.2.1).length ah] 24 (0,0))],ai,aj] [(0,.pointer (some ⟨O,0,none⟩)),(4,.pointer (some ⟨W,0,none⟩)),(5,.pointer (some ⟨U,0,none⟩)),(6,iV an.1),(7,iV K.2.2.2.2.2),(8,.slice aw (al.1).length ay),(9,.slice aI (ak.2.2.2.1).length aJ),(10,iV ak.2.2.2.2)] L s (Ao rI aH aY aZ (ak.1)∧Ao rI aH aI aJ (ak.2.2.2.1))) ⟨bz,co,cp,none,0,rfl,rfl,(Le.refl _),et,eq,Ao.nil⟩ ?_;rintro _ _ ak ⟨aH,aY,aZ,aI,aJ,rfl,rfl,cO,cP,cQ,bF⟩ fD ⟨hA,bG⟩ fE;have cR:=bG;unfold I3 at cR;obtain⟨cT,cV,cW⟩:=bs cR;refine zg 6 rfl ?_;refine JL.BM [] (fun L s=>∃(bH:LH),Jm aH H bH [[(O,.cells #[.slice aY (ak.1).length aZ,iV ak.2.1,.int .u64 ((ak.2.2.1:Nat):Int)] 92 (0,0))],[(W,.cells #[.slice none 0 0,.slice none 0 0] 24 (0,0))],[(U,.cells #[.slice ab (K.1).length ae,.slice ag (K.2.1).length ah] 24 (0,0))],ai,aj] [(0,.pointer (some ⟨O,0,none⟩)),(4,.pointer (some ⟨W,0,none⟩)),(5,.pointer (some ⟨U,0,none⟩)),(6,iV an.1),(7,iV K.2.2.2.2.2),(8,.slice aw (al.1).length ay),(9,.slice aI (ak.2.2.2.1).length aJ),(10,iV ak.2.2.2.2),(50,.bool cT)] L s) ?_ ?_
      ·rintro _ _ ⟨bH,rfl,rfl,aK,cX⟩;refine JL.done ?_;refine JL.split (t:=cT) rfl (fun bI=>?_) (fun bI=>?_)
       ·have fF:=ip cW bI;obtain⟨fG,fH,fI⟩:=bs fF;refine zg 7 rfl ?_;refine JL.Y rfl (fun ρ h=>Yl.Ba (h _ _ rfl) (h _ _ rfl) fH) ?_;refine JL.Y (v:=iV (max (0) (fG))) rfl (fun ρ h=>Yl.max2 (h _ _ rfl) (h _ _ rfl)) ?_;obtain⟨hB,fJ,fK⟩:=bs fI;refine JS.Bu 0 (FG (cQ.mono aK) fJ) rfl rfl (Aw func41 rfl) cX rfl ?_;rintro _ hC _ bJ ⟨hD,hE,rfl,rfl,fL⟩ fM;obtain⟨fN,fO,fP⟩:=bs fK;refine zg 6 rfl ?_;refine JS.Bu 0 (HJ fL fO) rfl rfl (Aw func97 rfl) fM rfl ?_;rintro _ cY _ bK ⟨fQ,fR,rfl,rfl,cZ⟩ c0;obtain⟨am,c1,fS⟩:=bs fP;refine JL.done ?_;refine JL.join (fun L s=>∃(a0:LH) (aR:Ar) (aS:Nat),Jn cY H a0 [[(O,.cells #[.slice aR (am.2.1).length aS,iV am.2.2.1,.int .u64 ((am.2.2.2:Nat):Int)] 92 (0,0))],[(W,.cells #[.slice none 0 0,.slice none 0 0] 24 (0,0))],[(U,.cells #[.slice ab (K.1).length ae,.slice ag (K.2.1).length ah] 24 (0,0))],ai,aj] [(0,.pointer (some ⟨O,0,none⟩)),(4,.pointer (some ⟨W,0,none⟩)),(5,.pointer (some ⟨U,0,none⟩)),(6,iV an.1),(7,iV K.2.2.2.2.2),(8,.slice aw (al.1).length ay),(9,.slice aI (ak.2.2.2.1).length aJ),(10,iV ak.2.2.2.2),(11,iV am.1)] L s (Ao rI a0 aR aS (am.2.1))) ?_ ?_
        ·rintro _ _ ⟨a0,aR,aS,rfl,rfl,bL,c3,fT⟩;obtain⟨bM,c4,fU⟩:=bs fS;refine zg 6 rfl ?_;refine JL.join (fun L s=>∃(bf:LH) (bg:Ar) (bh:Nat),Jn a0 H bf [[(O,.cells #[.slice aR (am.2.1).length aS,iV am.2.2.1,.int .u64 ((am.2.2.2:Nat):Int)] 92 (0,0))],[(W,.cells #[.slice none 0 0,.slice none 0 0] 24 (0,0))],[(U,.cells #[.slice ab (K.1).length ae,.slice ag (K.2.1).length ah] 24 (0,0))],ai,aj] [(0,.pointer (some ⟨O,0,none⟩)),(4,.pointer (some ⟨W,0,none⟩)),(5,.pointer (some ⟨U,0,none⟩)),(6,iV an.1),(7,iV K.2.2.2.2.2),(8,.slice aw (al.1).length ay),(9,.slice bg (bM).length bh),(10,iV ak.2.2.2.2)] L s (Ao rI bf bg bh (bM))) ?_ ?_
         ·rintro _ _ ⟨bf,bg,bh,rfl,rfl,c5,fV,fW⟩;obtain⟨fX,fY,fZ⟩:=bs fU;refine zg 3 rfl ?_;refine JL.Y rfl (fun ρ h=>Yl.Ba (h _ _ rfl) (h _ _ rfl) fY) ?_;refine zg 2 rfl ?_;obtain rfl:=oi fZ;exact JL.kw (fE _ _ (am.2.1,am.2.2.1,am.2.2.2,bM,fX) ⟨bf,aR,aS,bg,bh,rfl,rfl,(((((cO.trans aK).trans bJ).trans bK).trans bL).trans c5),fV,(fT.mono c5),fW⟩ bG) rfl
         ·intro c6;refine JL.ifs (p:=am.1≠K.2.2.2.2.2) rfl (fun bN=>?_) (fun bN=>?_)
          ·have ga:=ip c4 bN;obtain⟨hF,gb,gc⟩:=bs ga;refine zg 3 rfl ?_;refine JS.cl (N9 (bF.mono (((aK.trans bJ).trans bK).trans bL)) gb) rfl rfl (Aw func98 rfl) c3 ?_;rintro _ gd _ ge ⟨gf,gg,rfl,rfl,gh⟩ gi;refine JS.norm (S':= [[(O,.cells #[.slice aR (am.2.1).length aS,iV am.2.2.1,.int .u64 ((am.2.2.2:Nat):Int)] 92 (0,0))],[(W,.cells #[.slice none 0 0,.slice none 0 0] 24 (0,0))],[(U,.cells #[.slice ab (K.1).length ae,.slice ag (K.2.1).length ah] 24 (0,0))],ai,aj,[]]) rfl gi fun gj=>?_;refine zg 2 rfl ?_;obtain rfl:=oi gc;exact JL.kw (c6 _ _ ⟨gd,gf,gg,rfl,rfl,ge,gj,gh⟩) rfl
          ·have gk:=im c4 bN;refine JL.skip ?_;obtain rfl:=oi gk;exact JL.kw (c6 _ _ ⟨a0,aI,aJ,rfl,rfl,(Le.refl _),c3,(bF.mono (((aK.trans bJ).trans bK).trans bL))⟩) rfl
        ·intro c7;refine JL.split (t:=fN.1) rfl (fun bO=>?_) (fun bO=>?_)
         ·have gl:=ip c1 bO;obtain⟨hG,gm,gn⟩:=bs gl;refine zg 3 rfl ?_;refine JL.Y rfl (fun ρ h=>Yl.Ba (h _ _ rfl) (h _ _ rfl) gm) ?_;obtain⟨bP,gp,gq⟩:=bs gn;refine JS.Bu 0 (FG cZ gp) rfl rfl (Aw func41 rfl) c0 rfl ?_;rintro _ gr _ gt ⟨c8,c9,rfl,rfl,gu⟩ gv;refine JS.norm (S':= [[(O,.cells #[.slice c8 (bP.2.1).length c9,iV bP.2.2.1,.int .u64 ((bP.2.2.2:Nat):Int)] 92 (0,0))],[(W,.cells #[.slice none 0 0,.slice none 0 0] 24 (0,0))],[(U,.cells #[.slice ab (K.1).length ae,.slice ag (K.2.1).length ah] 24 (0,0))],ai,aj]) rfl gv fun gw=>?_;refine zg 2 rfl ?_;obtain rfl:=oi gq;exact JL.kw (c7 _ _ ⟨gr,c8,c9,rfl,rfl,gt,gw,gu⟩) rfl
         ·have gx:=ib c1 bO;refine JL.skip ?_;obtain rfl:=oi gx;exact JL.kw (c7 _ _ ⟨cY,fQ,fR,rfl,rfl,(Le.refl _),c0,cZ⟩) rfl
       ·have gy:=ib cW bI;refine JL.exit rfl ?_;obtain rfl:=oi gy;obtain rfl:=fD _ bG;exact JL.kw (fC _ _ ⟨bH,aI,aJ,aY,aZ,rfl,rfl,(cO.trans aK),cX,(bF.mono aK),(cQ.mono aK)⟩) rfl
      ·intro da;refine JL.Cm (q:=0<ak.2.2.2.2) (i:=47) rfl (fun bQ=>?_) (fun bQ=>?_)
       ·have gz:=ip cV bQ;refine zg 3 rfl ?_;obtain rfl:=oi gz;exact JL.kw (da _ _ ⟨aH,rfl,rfl,(Le.refl _),cP⟩) rfl
       ·have gA:=im cV bQ;refine zg 3 rfl ?_;obtain rfl:=oi gA;exact JL.kw (da _ _ ⟨aH,rfl,rfl,(Le.refl _),cP⟩) rfl
    ·intro db;refine JL.split (t:=bb.1) rfl (fun bR=>?_) (fun bR=>?_)
     ·have gB:=ip cm bR;obtain⟨hH,gC,gD⟩:=bs gB;refine zg 3 rfl ?_;refine JL.Y rfl (fun ρ h=>Yl.Ba (h _ _ rfl) (h _ _ rfl) gC) ?_;obtain⟨a1,gE,gF⟩:=bs gD;refine JS.Bu 0 (FG ci gE) rfl rfl (Aw func41 rfl) ck rfl ?_;rintro _ hI _ gG ⟨dc,dd,rfl,rfl,gH⟩ gI;refine JS.lit (pp:=rI) [iV a1.1] [a1.1] rfl rfl rfl underlying28 (Ag type3) (AN type3) (by decide) rfl rfl rfl ⟨rfl,trivial⟩ gI fun gJ hJ gK gL=>?_;refine zg 2 rfl ?_;refine JS.BO 5 gK gL rfl fun gM de gN gO=>?_;refine JS.norm (S':= [[(O,.cells #[.slice dc (a1.2.1).length dd,iV a1.2.2.1,.int .u64 ((a1.2.2.2:Nat):Int)] 92 (0,0))],[(W,.cells #[.slice none 0 0,.slice none 0 0] 24 (0,0))],[(U,.cells #[.slice ab (K.1).length ae,.slice ag (K.2.1).length ah] 24 (0,0))],ai,aj,[]]) rfl gO fun gP=>?_;obtain rfl:=oi gF;exact JL.kw (db _ _ ⟨gM,(some ⟨gJ,0,none⟩),1,dc,dd,rfl,rfl,(gG.trans de),gP,gN,(gH.mono de)⟩) rfl
     ·have gQ:=ib cm bR;refine JL.skip ?_;obtain rfl:=oi gQ;exact JL.kw (db _ _ ⟨ce,a9,ba,cf,cg,rfl,rfl,(Le.refl _),ck,(eb.mono aB),ci⟩) rfl
   ·intro df;refine JL.split (t:=a7.1) rfl (fun bS=>?_) (fun bS=>?_)
    ·have gR:=ip cd bS;obtain⟨hK,gS,gT⟩:=bs gR;refine zg 5 rfl ?_;refine JL.Y rfl (fun ρ h=>Yl.Ba (h _ _ rfl) (h _ _ rfl) gS) ?_;obtain⟨bT,gU,gV⟩:=bs gT;refine JS.Bu 0 (KD cb gU) rfl rfl (Aw func96 rfl) cc rfl ?_;rintro _ hL _ dg ⟨dh,di,rfl,rfl,gW⟩ gX;refine JS.norm (S':= [[(O,.cells #[.slice dh (bT.2.1).length di,iV bT.2.2.1,.int .u64 ((bT.2.2.2:Nat):Int)] 92 (0,0))],[(W,.cells #[.slice none 0 0,.slice none 0 0] 24 (0,0))],[(U,.cells #[.slice ab (K.1).length ae,.slice ag (K.2.1).length ah] 24 (0,0))],ai,aj,dU]) rfl gX fun gY=>?_;refine JS.BO 5 (b8.mono (av.trans dg)) gY rfl fun hM dj gZ g0=>?_;obtain⟨hN,g1,g2⟩:=bs gV;refine JS.cl (N9 gZ g1) rfl rfl (Aw func98 rfl) g0 ?_;rintro _ g3 _ dk ⟨g4,g5,rfl,rfl,g6⟩ g7;refine zg 2 rfl ?_;obtain rfl:=oi g2;exact JL.kw (df _ _ ⟨g3,g4,g5,dh,di,rfl,rfl,((dg.trans dj).trans dk),g7,g6,(gW.mono (dj.trans dk))⟩) rfl
    ·have g8:=ib cd bS;refine JL.skip ?_;refine JS.BO 5 (b8.mono av) cc rfl fun g9 dl ha hb=>?_;refine JS.norm (S':= [[(O,.cells #[.slice b9 (a7.2.1).length ca,iV a7.2.2.1,.int .u64 ((a7.2.2.2:Nat):Int)] 92 (0,0))],[(W,.cells #[.slice none 0 0,.slice none 0 0] 24 (0,0))],[(U,.cells #[.slice ab (K.1).length ae,.slice ag (K.2.1).length ah] 24 (0,0))],ai,aj,[]]) rfl hb fun hc=>?_;obtain rfl:=oi g8;exact JL.kw (df _ _ ⟨g9,(some ⟨dT,0,none⟩),1,b9,ca,rfl,rfl,dl,hc,ha,(cb.mono dl)⟩) rfl
  ·have hd:=im bo bp;refine JL.exit rfl ?_;obtain rfl:=oi hd;obtain rfl:=dN _ aW;exact JL.kw (dM _ _ ⟨aL,a2,a3,ab,ae,ai,ag,ah,aj,rfl,rfl,a4,b6,b7,a5,a6⟩) rfl
def IX(fuel:Nat)(p1:BD)(U:Int×(BK))(K:(List Int)×Int×Nat×Int×Int):Option (A8 ((List Int)×Int×Nat×Int×Int) (Int×BK)):=
 if K.2.2.2.2<U.1 then(
  (ix p1.1 (K.2.2.2.1)).bind fun W=>
  (f99 fuel (K.1,K.2.1,K.2.2.1) W).bind fun O=>
  (Ay (K.2.2.2.2+1)).bind fun Z=>
  some (.more (O.2.1,O.2.2.1,O.2.2.2,O.1,Z))
 ) else(
  some (.done (K.2.2.2.1,K.1,K.2.1,K.2.2.1))
 )
def I6(fuel:Nat)(p1:BD)(p2:Int)(K:(List Int)×Int×Nat×Int×(List Int)×Int):Option (A8 ((List Int)×Int×Nat×Int×(List Int)×Int) ((List Int)×BK)):=
 if K.2.2.2.2.2<p2 then(
  (room K.2.2.2.2.1 K.2.2.2.1).bind fun U=>
  (ix p1.1 (K.2.2.2.1)).bind fun W=>
  (f99 fuel (K.1,K.2.1,K.2.2.1) W).bind fun O=>
  (Ay (K.2.2.2.2.2+1)).bind fun Z=>
  some (.more (O.2.1,O.2.2.1,O.2.2.2,O.1,U,Z))
 ) else(
  some (.done (K.2.2.2.2.1,K.1,K.2.1,K.2.2.1))
 )
def f45(fuel:Nat)(p0:BK)(p1:BD)(p2:Int):Option (Int×(List Int)×(BK)):=
 (f41 fuel p0 6).bind fun K=>
 Option.bind (iter (IX fuel p1 K) fuel (K.2.1,K.2.2.1,K.2.2.2,0,0)) fun O=>
 Option.bind (iter (I6 fuel p1 p2) fuel (O.2.1,O.2.2.1,O.2.2.2,O.1,[],0)) fun U=>
 some (K.1,U.1,U.2)
theorem NZ{K:Nat}{aS:Ar}{c2:Nat}{aF:Ar}{aG:Nat}{aH:Ar}{aI:Nat}{p0:BK}{p1:BD}{p2:Int}(a7:Ao rI E aS c2 (p0.1))(aT:Ao (rL rI) E aF aG (p1.1))(cm:Ao (rL rI) E aH aI (p1.2)){fuel:Nat}{r:Int×(List Int)×(BK)}(aU:f45 fuel p0 p1 p2=some r):As J 45 [.pointer (some ⟨K,0,none⟩),.agg #[.slice aF (p1.1).length aG,.slice aH (p1.2).length aI],iV p2] E [(K,.cells #[.slice aS (p0.1).length c2,iV p0.2.1,.int .u64 ((p0.2.2:Nat):Int)] 92 (0,0))] (fun w E' B'=>∃(aV:Ar) (aW:Nat) (aX:Ar) (aY:Nat),w= .tuple #[iV r.1,.slice aV (r.2.1).length aW]∧B'= [(K,.cells #[.slice aX (r.2.2.1).length aY,iV r.2.2.2.1,.int .u64 ((r.2.2.2.2:Nat):Int)] 92 (0,0))]∧Ao rI E' aV aW (r.2.1)∧Ao rI E' aX aY (r.2.2.1)):=by
 refine As.en func45 rfl rfl fun Q cn cs H a8 a9=>?_;unfold f45 at aU;refine zg 2 rfl ?_;refine JS.box (v:= .agg #[.slice aF (p1.1).length aG,.slice aH (p1.2).length aI]) rfl rfl rfl a8 rfl fun ae ba=>?_;refine JS.Bo 1 ba rfl fun co ak aZ bb=>?_;obtain⟨W,bc,bd⟩:=bs aU;refine zg 6 rfl ?_;refine JS.Bu 0 (FG (a7.mono ak) bc) rfl rfl (Aw func41 rfl) bb rfl ?_;rintro _ aJ _ ag ⟨bf,bg,rfl,rfl,bh⟩ bi;obtain⟨Z,bj,bk⟩:=bs bd;refine zg 8 rfl ?_;refine JL.join (fun L s=>∃(aa:LH) (al:Ar) (am:Nat),Jn aJ H aa [[(K,.cells #[.slice al (Z.2.1).length am,iV Z.2.2.1,.int .u64 ((Z.2.2.2:Nat):Int)] 92 (0,0))]] [(0,.pointer (some ⟨K,0,none⟩)),(2,iV p2),(4,.pointer (some ⟨ae,0,none⟩)),(8,iV W.1),(9,iV Z.1)] L s (Ao rI aa al am (Z.2.1))) ?_ ?_
 ·rintro _ _ ⟨aa,al,am,rfl,rfl,aK,bl,bm⟩;obtain⟨ab,bn,bo⟩:=bs bk;refine zg 9 rfl ?_;refine JL.join (fun L s=>∃(an:LH) (ao:Ar) (ap:Nat) (aL:Seg) (aq:Ar) (ar:Nat),Jn aa H an [[(K,.cells #[.slice aq (ab.2.1).length ar,iV ab.2.2.1,.int .u64 ((ab.2.2.2:Nat):Int)] 92 (0,0))],aL] [(8,iV W.1),(11,.slice ao (ab.1).length ap)] L s (OL 3 rI an ao ap aL (ab.1)∧Ao rI an aq ar (ab.2.1))) ?_ ?_
  ·rintro _ _ ⟨an,ao,ap,aL,aq,ar,rfl,rfl,bp,bq,br,bu⟩;refine zg 7 rfl ?_;refine JS.BO 1 br bq rfl fun cp a0 bv bw=>?_;obtain rfl:=oi bo;refine JL.rt func45 rfl rfl ?_;exact a9 _ _ _ _ ((((ak.trans ag).trans aK).trans bp).trans a0) rfl ⟨ao,ap,aq,ar,rfl,rfl,bv,(bu.mono a0)⟩ bw
  ·intro bx;refine JL.block ?_;refine JL.wk [(0,.pointer (some ⟨K,0,none⟩)),(2,iV p2),(4,.pointer (some ⟨ae,0,none⟩)),(8,iV W.1),(9,iV Z.1),(11,.slice none 0 0),(12,iV 0)] rfl ?_;refine JL.Bq bn (fun L s O=>∃(ah:LH) (au:Ar) (av:Nat) (ai:Ar) (aj:Nat) (aw:Seg),Jn aa H ah [[(K,.cells #[.slice au (O.1).length av,iV O.2.1,.int .u64 ((O.2.2.1:Nat):Int)] 92 (0,0))],aw] [(0,.pointer (some ⟨K,0,none⟩)),(2,iV p2),(4,.pointer (some ⟨ae,0,none⟩)),(8,iV W.1),(9,iV O.2.2.2.1),(11,.slice ai (O.2.2.2.2.1).length aj),(12,iV O.2.2.2.2.2)] L s (Ao rI ah au av (O.1)∧OL 3 rI ah ai aj aw (O.2.2.2.2.1))) ⟨aa,al,am,none,0,[],rfl,rfl,(Le.refl _),bl,bm,OL.nil⟩ ?_;rintro _ _ O ⟨ah,au,av,ai,aj,aw,rfl,rfl,ay,a1,a2,a3⟩ bz ⟨cq,aM⟩ bA;have aN:=aM;unfold I6 at aN;refine zg 7 rfl ?_;refine JL.ifs (p:=O.2.2.2.2.2<p2) rfl (fun aO=>?_) (fun aO=>?_)
   ·have bB:=ip aN aO;obtain⟨bC,bD,bE⟩:=bs bB;refine zg 7 rfl ?_;refine JS.app (pp:=rI) (v:=iV O.2.2.2.1) (a:=ai) (c:=aj) 1 bD rfl rfl rfl rfl (fun _=>rfl) rfl (fun _=>rfl) rfl rfl rfl underlying28 underlying28 underlying28 (Ag type3) (CJ type3) (AN type3) rfl (by decide) (by decide) (by decide) (by decide) a3 rfl a1 rfl fun cr bF bG bH bI bJ=>?_;refine zg 4 rfl ?_;refine JL.fd underlying24 (Ag type22) rfl rfl rfl ?_;refine JL.ld 0 (aZ.mono ((ag.trans aK).trans ay)) (An underlying22) rfl rfl rfl ?_;obtain⟨ct,bK,bL⟩:=bs bE;refine zg 1 rfl ?_;refine JS.BV (aT.mono (((ak.trans ag).trans aK).trans ay)) bK rfl rfl rfl rfl rfl underlying22 (Ag type28) ?_;rintro cu cv _ ⟨cw,cy,rfl,bM⟩ bN;refine JL.ld 0 bN (An underlying28) rfl rfl rfl ?_;obtain⟨az,bO,bP⟩:=bs bL;refine JS.Bu 0 (Jg a2 bM bO) rfl rfl (Aw func99 rfl) bJ rfl ?_;rintro _ bQ _ a4 ⟨bR,bS,rfl,rfl,bT⟩ bU;obtain⟨bV,bW,bX⟩:=bs bP;refine zg 5 rfl ?_;refine JL.Y rfl (fun ρ h=>Yl.A6 (h _ _ rfl) (h _ _ rfl) bW) ?_;refine zg 2 rfl ?_;obtain rfl:=oi bX;exact JL.kw (bA _ _ (az.2.1,az.2.2.1,az.2.2.2,az.1,bC,bV) ⟨bQ,bR,bS,bF,bG,bH,rfl,rfl,(ay.trans a4),bU,bT,(bI.mono a4)⟩ aM) rfl
   ·have bY:=im aN aO;refine JL.exit rfl ?_;obtain rfl:=oi bY;obtain rfl:=bz _ aM;exact JL.kw (bx _ _ ⟨ah,ai,aj,aw,au,av,rfl,rfl,ay,a1,a3,a2⟩) rfl
 ·intro bZ;refine JL.block ?_;refine JL.wk [(0,.pointer (some ⟨K,0,none⟩)),(2,iV p2),(4,.pointer (some ⟨ae,0,none⟩)),(8,iV W.1),(9,iV 0),(10,iV 0)] rfl ?_;refine JL.Bq bj (fun L s U=>∃(aA:LH) (aB:Ar) (aC:Nat),Jn aJ H aA [[(K,.cells #[.slice aB (U.1).length aC,iV U.2.1,.int .u64 ((U.2.2.1:Nat):Int)] 92 (0,0))]] [(0,.pointer (some ⟨K,0,none⟩)),(2,iV p2),(4,.pointer (some ⟨ae,0,none⟩)),(8,iV W.1),(9,iV U.2.2.2.1),(10,iV U.2.2.2.2)] L s (Ao rI aA aB aC (U.1))) ⟨aJ,bf,bg,rfl,rfl,(Le.refl _),bi,bh⟩ ?_;rintro _ _ U ⟨aA,aB,aC,rfl,rfl,aD,a5,a6⟩ b0 ⟨cz,aP⟩ b1;have aQ:=aP;unfold IX at aQ;refine zg 7 rfl ?_;refine JL.ifs (p:=U.2.2.2.2<W.1) rfl (fun aR=>?_) (fun aR=>?_)
  ·have b2:=ip aQ aR;refine zg 5 rfl ?_;refine JL.fd underlying24 (Ag type22) rfl rfl rfl ?_;refine JL.ld 0 (aZ.mono (ag.trans aD)) (An underlying22) rfl rfl rfl ?_;obtain⟨cA,b3,b4⟩:=bs b2;refine zg 1 rfl ?_;refine JS.BV (aT.mono ((ak.trans ag).trans aD)) b3 rfl rfl rfl rfl rfl underlying22 (Ag type28) ?_;rintro cB cC _ ⟨cD,cE,rfl,b5⟩ b6;refine JL.ld 0 b6 (An underlying28) rfl rfl rfl ?_;obtain⟨aE,b7,b8⟩:=bs b4;refine JS.Bu 0 (Jg a6 b5 b7) rfl rfl (Aw func99 rfl) a5 rfl ?_;rintro _ b9 _ ca ⟨cb,cc,rfl,rfl,cd⟩ ce;obtain⟨cf,cg,ci⟩:=bs b8;refine zg 5 rfl ?_;refine JL.Y rfl (fun ρ h=>Yl.A6 (h _ _ rfl) (h _ _ rfl) cg) ?_;refine zg 2 rfl ?_;obtain rfl:=oi ci;exact JL.kw (b1 _ _ (aE.2.1,aE.2.2.1,aE.2.2.2,aE.1,cf) ⟨b9,cb,cc,rfl,rfl,(aD.trans ca),ce,cd⟩ aP) rfl
  ·have ck:=im aQ aR;refine JL.exit rfl ?_;obtain rfl:=oi ck;obtain rfl:=b0 _ aP;exact JL.kw (bZ _ _ ⟨aA,aB,aC,rfl,rfl,aD,a5,a6⟩) rfl
def Ks(fuel:Nat)(p1:BD)(p2:List Int)(p4:Bool)(K:(List Int)×Int×Nat×(AT)×Int×Int):Option (A8 ((List Int)×Int×Nat×(AT)×Int×Int) ((AT)×BK)):=
 if 0<K.2.2.2.2.2 then(
  (Ay (((p2).length:Int) - 1)).bind fun ab=>
  (Ay (K.2.2.2.2.1+2)).bind fun ae=>
  (f96 fuel (K.1,K.2.1,K.2.2.1) K.2.2.2.2.1 (min (ab) (ae))).bind fun O=>
  (ix p2 (O.1)).bind fun ag=>
  (ix p2 (O.1)).bind fun ah=>
  (ix p1.2 (ah)).bind fun aa=>
  Option.bind (
   if p4=true then(
    some (decide (0<((aa).length:Int)))
   ) else(
    some false
   )
  ) fun ai=>
  Option.bind (
   if ai=true then(
    (f97 fuel O.2 2).bind fun aj=>
    some aj
   ) else(
    some (false,O.2.1,O.2.2.1,O.2.2.2)
   )
  ) fun U=>
  Option.bind (
   if U.1=true then(
    (f99 fuel U.2 aa).bind fun W=>
    some (W.2.1,W.2.2.1,W.2.2.2,W.1)
   ) else(
    some (U.2.1,U.2.2.1,U.2.2.2,ag)
   )
  ) fun Z=>
  (room K.2.2.2.1 (O.1,Z.2.2.2)).bind fun ak=>
  (Ay (K.2.2.2.2.2 - 1)).bind fun al=>
  some (.more (Z.1,Z.2.1,Z.2.2.1,ak,O.1,al))
 ) else(
  some (.done (K.2.2.2.1,K.1,K.2.1,K.2.2.1))
 )
def f46(fuel:Nat)(p0:BK)(p1:BD)(p2:List Int)(p3:Int)(p4:Bool):Option ((AT)×(BK)):=
 (f41 fuel p0 p3).bind fun K=>
 Option.bind (iter (Ks fuel p1 p2 p4) fuel (K.2.1,K.2.2.1,K.2.2.2,[],0,K.1)) fun O=>
 some O
theorem KN{U:Nat}{aX:Ar}{c2:Nat}{aK:Ar}{aL:Nat}{aM:Ar}{aN:Nat}{ab:Ar}{ae:Nat}{p0:BK}{p1:BD}{p2:List Int}{p3:Int}{p4:Bool}(br:Ao rI E aX c2 (p0.1))(cZ:Ao (rL rI) E aK aL (p1.1))(bu:Ao (rL rI) E aM aN (p1.2))(aY:Ao rI E ab ae (p2)){fuel:Nat}{r:(AT)×(BK)}(aZ:f46 fuel p0 p1 p2 p3 p4=some r):As J 46 [.pointer (some ⟨U,0,none⟩),.agg #[.slice aK (p1.1).length aL,.slice aM (p1.2).length aN],.slice ab (p2).length ae,iV p3,.bool p4] E [(U,.cells #[.slice aX (p0.1).length c2,iV p0.2.1,.int .u64 ((p0.2.2:Nat):Int)] 92 (0,0))] (fun w E' B'=>∃(a0:Ar) (a1:Nat) (g0:Seg) (a2:Ar) (a3:Nat),w= .slice a0 (r.1).length a1∧B'= [(U,.cells #[.slice a2 (r.2.1).length a3,iV r.2.2.1,.int .u64 ((r.2.2.2:Nat):Int)] 92 (0,0))]++g0∧OL 27 Bl E' a0 a1 g0 (r.1)∧Ao rI E' a2 a3 (r.2.1)):=by
 refine As.en func46 rfl rfl fun Q c0 cs H bv bw=>?_;unfold f46 at aZ;refine zg 2 rfl ?_;refine JS.box (v:= .agg #[.slice aK (p1.1).length aL,.slice aM (p1.2).length aN]) rfl rfl rfl bv rfl fun am bx=>?_;refine JS.Bo 1 bx rfl fun c1 an bz bA=>?_;obtain⟨bB,bC,bD⟩:=bs aZ;refine zg 15 rfl ?_;refine JS.Bu 0 (FG (br.mono an) bC) rfl rfl (Aw func41 rfl) bA rfl ?_;rintro _ aO _ ao ⟨bE,bF,rfl,rfl,bG⟩ bH;obtain⟨ah,bI,bJ⟩:=bs bD;refine zg 2 rfl ?_;refine JL.join (fun L s=>∃(au:LH) (av:Ar) (aw:Nat) (ay:Seg) (az:Ar) (aA:Nat),Jn aO H au [[(U,.cells #[.slice az (ah.2.1).length aA,iV ah.2.2.1,.int .u64 ((ah.2.2.2:Nat):Int)] 92 (0,0))],ay] [(11,.slice av (ah.1).length aw)] L s (OL 27 Bl au av aw ay (ah.1)∧Ao rI au az aA (ah.2.1))) ?_ ?_
 ·rintro _ _ ⟨au,av,aw,ay,az,aA,rfl,rfl,bK,bL,bM,bN⟩;refine zg 5 rfl ?_;obtain rfl:=oi bJ;refine JL.rt func46 rfl rfl ?_;exact bw _ _ _ _ ((an.trans ao).trans bK) rfl ⟨av,aw,ay,az,aA,rfl,(by first | rfl | simp | (simp [Value.cells])),bM,bN⟩ bL
 ·intro bO;refine JL.block ?_;refine JL.wk [(0,.pointer (some ⟨U,0,none⟩)),(2,.slice ab (p2).length ae),(4,.bool p4),(6,.pointer (some ⟨am,0,none⟩)),(11,.slice none 0 0),(12,iV 0),(13,iV bB.1)] rfl ?_;refine JL.Bq bI (fun L s K=>∃(ap:LH) (aB:Ar) (aC:Nat) (Z:Ar) (aa:Nat) (ag:Seg),Jn aO H ap [[(U,.cells #[.slice aB (K.1).length aC,iV K.2.1,.int .u64 ((K.2.2.1:Nat):Int)] 92 (0,0))],ag] [(0,.pointer (some ⟨U,0,none⟩)),(2,.slice ab (p2).length ae),(4,.bool p4),(6,.pointer (some ⟨am,0,none⟩)),(11,.slice Z (K.2.2.2.1).length aa),(12,iV K.2.2.2.2.1),(13,iV K.2.2.2.2.2)] L s (Ao rI ap aB aC (K.1)∧OL 27 Bl ap Z aa ag (K.2.2.2.1))) ⟨aO,bE,bF,none,0,[],rfl,rfl,(Le.refl _),bH,bG,OL.nil⟩ ?_;rintro _ _ K ⟨ap,aB,aC,Z,aa,ag,rfl,rfl,ai,a4,a5,a6⟩ bP ⟨c3,aP⟩ bQ;have aQ:=aP;unfold Ks at aQ;refine zg 6 rfl ?_;refine JL.ifs (p:=0<K.2.2.2.2.2) rfl (fun aR=>?_) (fun aR=>?_)
  ·have bR:=ip aQ aR;refine zg 8 rfl ?_;refine JL.Y rfl (fun ρ h=>Yl.len rfl underlying28 (h _ _ rfl)) ?_;obtain⟨bS,bT,bU⟩:=bs bR;refine JL.Y rfl (fun ρ h=>Yl.Ba (h _ _ rfl) (h _ _ rfl) bT) ?_;obtain⟨bV,bW,bX⟩:=bs bU;refine zg 1 rfl ?_;refine JL.Y rfl (fun ρ h=>Yl.A6 (h _ _ rfl) (h _ _ rfl) bW) ?_;refine JL.Y (v:=iV (min (bS) (bV))) rfl (fun ρ h=>Yl.min2 (h _ _ rfl) (h _ _ rfl)) ?_;obtain⟨O,bY,bZ⟩:=bs bX;refine JS.Bu 0 (KD a5 bY) rfl rfl (Aw func96 rfl) a4 rfl ?_;rintro _ aS _ aj ⟨a7,a8,rfl,rfl,a9⟩ b0;obtain⟨aD,b1,b2⟩:=bs bZ;refine zg 7 rfl ?_;refine JS.BV (aY.mono (((an.trans ao).trans ai).trans aj)) b1 rfl rfl rfl rfl rfl underlying28 (Ag type3) ?_;rintro c4 c5 _ rfl b3;refine JL.ld 0 b3 (An underlying3) rfl rfl rfl ?_;refine JL.Y (v:= .agg #[iV O.1,iV aD]) rfl (fun ρ h=>Yl.Ci [(0,1),(1,1)] h (AN type27) underlying27 ⟨rfl,Ag type3,rfl,Ag type3,trivial⟩ rfl rfl) ?_;refine JS.alloc rfl rfl rfl b0 (AN type27) fun ak b4=>?_;refine JS.st (v:= .agg #[iV O.1,iV aD]) (off:=0) 2 b4 (Ag type27) rfl rfl rfl rfl fun ba=>?_;refine zg 3 rfl ?_;refine JG.Dm 6 mixed rfl (by decide+kernel) fun ht=>?_;refine JG.fd 0 ht underlying24 (Ag type22) rfl rfl rfl rfl ?_;refine JG.ld 1 ht 1 (bz.mono ((ao.trans ai).trans aj)) (An underlying22) rfl rfl rfl rfl ?_;refine JG.ms ht rfl [2,3] rfl ?_;obtain⟨c6,b5,b6⟩:=bs b2;refine JG.idx 4 (aY.mono (((an.trans ao).trans ai).trans aj)) b5 rfl ht (by decide+kernel) rfl rfl rfl rfl rfl underlying28 (Ag type3) ?_;rintro c7 c8 _ rfl b7;refine JG.ld 5 ht 0 b7 (An underlying3) rfl rfl rfl rfl ?_;refine Au.leaf (tail:= [6,7,8]) (by decide+kernel) (fun t=>A7 (by decide+kernel) (A7 (by decide+kernel) (A7 (by decide+kernel) BU)) t) ?_;obtain⟨bb,b8,b9⟩:=bs b6;refine JS.BV (bu.mono (((an.trans ao).trans ai).trans aj)) b8 rfl rfl rfl rfl rfl underlying22 (Ag type28) ?_;rintro c9 da _ ⟨bc,bd,rfl,ca⟩ cb;refine JL.ld 0 cb (An underlying28) rfl rfl rfl ?_;obtain⟨bf,bg,cc⟩:=bs b9;refine zg 6 rfl ?_;refine JL.BM [6,7,8,9] (fun L s=>∃(aE:LH),Jm aS H aE [[(U,.cells #[.slice a7 (O.2.1).length a8,iV O.2.2.1,.int .u64 ((O.2.2.2:Nat):Int)] 92 (0,0))],ag,[(ak,.cells #[iV O.1,iV aD] 27 (0,0))]] [(0,.pointer (some ⟨U,0,none⟩)),(2,.slice ab (p2).length ae),(4,.bool p4),(6,.pointer (some ⟨am,0,none⟩)),(11,.slice Z (K.2.2.2.1).length aa),(12,iV O.1),(13,iV K.2.2.2.2.2),(14,.pointer (some ⟨ak,0,none⟩)),(15,.slice bc (bb).length bd),(51,.bool bf)] L s) ?_ ?_
   ·rintro _ _ ⟨aE,rfl,rfl,aq,bh⟩;obtain⟨al,bi,cd⟩:=bs cc;refine zg 1 rfl ?_;refine JL.BM [] (fun L s=>∃(ar:LH) (aF:Ar) (aG:Nat),Jn aE H ar [[(U,.cells #[.slice aF (al.2.1).length aG,iV al.2.2.1,.int .u64 ((al.2.2.2:Nat):Int)] 92 (0,0))],ag,[(ak,.cells #[iV O.1,iV aD] 27 (0,0))]] [(0,.pointer (some ⟨U,0,none⟩)),(2,.slice ab (p2).length ae),(4,.bool p4),(6,.pointer (some ⟨am,0,none⟩)),(11,.slice Z (K.2.2.2.1).length aa),(12,iV O.1),(13,iV K.2.2.2.2.2),(14,.pointer (some ⟨ak,0,none⟩)),(15,.slice bc (bb).length bd),(55,.bool al.1)] L s (Ao rI ar aF aG (al.2.1))) ?_ ?_
    ·rintro _ _ ⟨ar,aF,aG,rfl,rfl,aT,bj,bk⟩;obtain⟨W,bl,ce⟩:=bs cd;refine JL.done ?_;refine JL.join (fun L s=>∃(aH:LH) (aI:Ar) (aJ:Nat),Jn ar H aH [[(U,.cells #[.slice aI (W.1).length aJ,iV W.2.1,.int .u64 ((W.2.2.1:Nat):Int)] 92 (0,0))],ag,[(ak,.cells #[iV O.1,iV W.2.2.2] 27 (0,0))]] [(0,.pointer (some ⟨U,0,none⟩)),(2,.slice ab (p2).length ae),(4,.bool p4),(6,.pointer (some ⟨am,0,none⟩)),(11,.slice Z (K.2.2.2.1).length aa),(12,iV O.1),(13,iV K.2.2.2.2.2),(14,.pointer (some ⟨ak,0,none⟩))] L s (Ao rI aH aI aJ (W.1))) ?_ ?_
     ·rintro _ _ ⟨aH,aI,aJ,rfl,rfl,bm,bn,cf⟩;refine zg 2 rfl ?_;refine JL.Y rfl (fun ρ h=>Yl.Bp (vs:= [iV O.1,iV W.2.2.2]) (An underlying27) (Ag type27) (h _ _ rfl) (Ec (off:=0) 2 bn rfl rfl)) ?_;obtain⟨cg,ci,ck⟩:=bs ce;refine JS.app (pp:=Bl) (v:= .agg #[iV O.1,iV W.2.2.2]) (a:=Z) (c:=aa) 1 ci rfl rfl rfl rfl (fun _=>rfl) rfl (fun _=>rfl) rfl rfl rfl underlying25 underlying25 underlying25 (Ag type27) (CJ type27) (AN type27) rfl (by decide) (by decide) (by decide) (by decide) (a6.mono (((aj.trans aq).trans aT).trans bm)) ⟨_,_,rfl,rfl,rfl⟩ bn rfl fun db cm cn co cp cq=>?_;obtain⟨cr,ct,cu⟩:=bs ck;refine zg 5 rfl ?_;refine JL.Y rfl (fun ρ h=>Yl.Ba (h _ _ rfl) (h _ _ rfl) ct) ?_;refine zg 2 rfl ?_;refine JS.drop 2 cq rfl fun cv=>?_;obtain rfl:=oi cu;exact JL.kw (bQ _ _ (W.1,W.2.1,W.2.2.1,cg,O.1,cr) ⟨aH,aI,aJ,cm,cn,co,rfl,rfl,((((ai.trans aj).trans aq).trans aT).trans bm),cv,cf,cp⟩ aP) rfl
     ·intro bo;refine JL.split (t:=al.1) rfl (fun aU=>?_) (fun aU=>?_)
      ·have cw:=ip bl aU;obtain⟨cy,cz,cA⟩:=bs cw;refine zg 3 rfl ?_;refine JS.Bu 0 (Jg bk (ca.mono (aq.trans aT)) cz) rfl rfl (Aw func99 rfl) bj rfl ?_;rintro _ cB _ cC ⟨cD,cE,rfl,rfl,cF⟩ cG;refine JL.fd underlying27 (Ag type3) rfl rfl rfl ?_;refine JS.st (v:=iV cy.1) (off:=1) 2 cG (Ag type3) rfl rfl rfl rfl fun cH=>?_;refine JL.done ?_;obtain rfl:=oi cA;exact JL.kw (bo _ _ ⟨cB,cD,cE,rfl,rfl,cC,cH,cF⟩) rfl
      ·have cI:=ib bl aU;refine JL.skip ?_;obtain rfl:=oi cI;exact JL.kw (bo _ _ ⟨ar,aF,aG,rfl,rfl,(Le.refl _),bj,bk⟩) rfl
    ·intro bp;refine JL.Cb (c:=bf) (i:=52) rfl (fun aV=>?_) (fun aV=>?_)
     ·have cJ:=ip bi aV;obtain⟨dc,cK,cM⟩:=bs cJ;refine zg 1 rfl ?_;refine JS.Bu 0 (HJ (a9.mono aq) cK) rfl rfl (Aw func97 rfl) bh rfl ?_;rintro _ cN _ cO ⟨cP,cQ,rfl,rfl,cR⟩ cT;refine zg 1 rfl ?_;obtain rfl:=oi cM;exact JL.kw (bp _ _ ⟨cN,cP,cQ,rfl,rfl,cO,cT,cR⟩) rfl
     ·have cV:=ib bi aV;refine zg 3 rfl ?_;obtain rfl:=oi cV;exact JL.kw (bp _ _ ⟨aE,a7,a8,rfl,rfl,(Le.refl _),bh,(a9.mono aq)⟩) rfl
   ·intro bq;refine JL.Cb (c:=p4) (i:=47) rfl (fun aW=>?_) (fun aW=>?_)
    ·have cW:=ip bg aW;refine zg 1 rfl ?_;refine JL.Y rfl (fun ρ h=>Yl.len rfl underlying28 (h _ _ rfl)) ?_;refine zg 2 rfl ?_;obtain rfl:=oi cW;exact JL.kw (bq _ _ ⟨aS,rfl,rfl,(Le.refl _),ba⟩) rfl
    ·have cX:=ib bg aW;refine zg 4 rfl ?_;obtain rfl:=oi cX;exact JL.kw (bq _ _ ⟨aS,rfl,rfl,(Le.refl _),ba⟩) rfl
  ·have cY:=im aQ aR;refine JL.exit rfl ?_;obtain rfl:=oi cY;obtain rfl:=bP _ aP;exact JL.kw (bO _ _ ⟨ap,Z,aa,ag,aB,aC,rfl,rfl,ai,a4,a6,a5⟩) rfl
def I8(fuel:Nat)(p1:BD)(K:(List Int)×Int×Nat×(AT)×Int):Option (A8 ((List Int)×Int×Nat×(AT)×Int) ((AT)×BK)):=
 if K.2.2.2.2<((K.2.2.2.1).length:Int) then(
  (f97 fuel (K.1,K.2.1,K.2.2.1) 6).bind fun O=>
  Option.bind (
   if O.1=true then(
    (Ay (((p1.1).length:Int) - 1)).bind fun Z=>
    (f41 fuel O.2 Z).bind fun U=>
    (ix K.2.2.2.1 (K.2.2.2.2)).bind fun aa=>
    some ((K.2.2.2.1.set (Int.toNat K.2.2.2.2) (aa.1,U.1)),U.2.1,U.2.2.1,U.2.2.2)
   ) else(
    some (K.2.2.2.1,O.2.1,O.2.2.1,O.2.2.2)
   )
  ) fun W=>
  (Ay (K.2.2.2.2+1)).bind fun ab=>
  some (.more (W.2.1,W.2.2.1,W.2.2.2,W.1,ab))
 ) else(
  some (.done (K.2.2.2.1,K.1,K.2.1,K.2.2.1))
 )
def f40(fuel:Nat)(p0:BK)(p1:BD)(p2:Int):Option ((AT)×(BK)):=
 (f45 fuel p0 p1 5).bind fun O=>
 (f46 fuel O.2.2 p1 O.2.1 p2 true).bind fun K=>
 Option.bind (iter (I8 fuel p1) fuel (K.2.1,K.2.2.1,K.2.2.2,K.1,0)) fun U=>
 some U
theorem NU{O:Nat}{aS:Ar}{c2:Nat}{am:Ar}{an:Nat}{aF:Ar}{aG:Nat}{p0:BK}{p1:BD}{p2:Int}(bg:Ao rI E aS c2 (p0.1))(aT:Ao (rL rI) E am an (p1.1))(aU:Ao (rL rI) E aF aG (p1.2)){fuel:Nat}{r:(AT)×(BK)}(aV:f40 fuel p0 p1 p2=some r):As J 40 [.pointer (some ⟨O,0,none⟩),.agg #[.slice am (p1.1).length an,.slice aF (p1.2).length aG],iV p2] E [(O,.cells #[.slice aS (p0.1).length c2,iV p0.2.1,.int .u64 ((p0.2.2:Nat):Int)] 92 (0,0))] (fun w E' B'=>∃(aW:Ar) (aX:Nat) (aY:Ar) (aZ:Nat),w= .slice aW (r.1).length aX∧B'= [(O,.cells #[.slice aY (r.2.1).length aZ,iV r.2.2.1,.int .u64 ((r.2.2.2:Nat):Int)] 92 (0,0))]∧Ao Bl E' aW aX (r.1)∧Ao rI E' aY aZ (r.2.1)):=by
 refine As.en func40 rfl rfl fun Q cn cs H bh bi=>?_;unfold f40 at aV;refine zg 2 rfl ?_;refine JS.box (v:= .agg #[.slice am (p1.1).length an,.slice aF (p1.2).length aG]) rfl rfl rfl bh rfl fun ah bj=>?_;refine JS.Bo 1 bj rfl fun co ae aH bk=>?_;refine zg 5 rfl ?_;refine JL.Bx aH (An underlying24) (Ag type24) rfl rfl ?_;obtain⟨cp,bl,bm⟩:=bs aV;refine JS.Bu 0 (NZ (bg.mono ae) (aT.mono ae) (aU.mono ae) bl) rfl rfl (Aw func45 rfl) bk rfl ?_;rintro _ cq _ ai ⟨cr,ct,cu,cv,rfl,rfl,bn,bo⟩ bp;refine zg 9 rfl ?_;refine JL.Bx (aH.mono ai) (An underlying24) (Ag type24) rfl rfl ?_;obtain⟨bq,br,bu⟩:=bs bm;refine zg 2 rfl ?_;refine JS.Bu 0 (KN bo (aT.mono (ae.trans ai)) (aU.mono (ae.trans ai)) bn br) rfl rfl (Aw func46 rfl) bp rfl ?_;rintro _ aI _ a0 ⟨a1,a2,bv,bw,bx,rfl,rfl,bz,bA⟩ bB;refine JS.part 0 rfl bB fun bC=>?_;obtain⟨ag,bD,bE⟩:=bs bu;refine zg 7 rfl ?_;refine JL.join (fun L s=>∃(ao:LH) (ap:Ar) (aq:Nat) (aJ:Seg) (ar:Ar) (au:Nat),Jn aI H ao [[(O,.cells #[.slice ar (ag.2.1).length au,iV ag.2.2.1,.int .u64 ((ag.2.2.2:Nat):Int)] 92 (0,0))],aJ] [(9,.slice ap (ag.1).length aq)] L s (OL 27 Bl ao ap aq aJ (ag.1)∧Ao rI ao ar au (ag.2.1))) ?_ ?_
 ·rintro _ _ ⟨ao,ap,aq,aJ,ar,au,rfl,rfl,bF,bG,bH,bI⟩;refine zg 5 rfl ?_;refine JS.BO 1 bH bG rfl fun cw a3 bJ bK=>?_;obtain rfl:=oi bE;refine JL.rt func40 rfl rfl ?_;exact bi _ _ _ _ ((((ae.trans ai).trans a0).trans bF).trans a3) rfl ⟨ap,aq,ar,au,rfl,rfl,bJ,(bI.mono a3)⟩ bK
 ·intro bL;refine JL.block ?_;refine JL.wk [(0,.pointer (some ⟨O,0,none⟩)),(4,.pointer (some ⟨ah,0,none⟩)),(9,.slice a1 (bq.1).length a2),(10,iV 0)] rfl ?_;refine JL.Bq bD (fun L s K=>∃(aj:LH) (av:Ar) (aw:Nat) (aa:Ar) (ab:Nat) (ak:Seg),Jn aI H aj [[(O,.cells #[.slice av (K.1).length aw,iV K.2.1,.int .u64 ((K.2.2.1:Nat):Int)] 92 (0,0))],ak] [(0,.pointer (some ⟨O,0,none⟩)),(4,.pointer (some ⟨ah,0,none⟩)),(9,.slice aa (K.2.2.2.1).length ab),(10,iV K.2.2.2.2)] L s (Ao rI aj av aw (K.1)∧OL 27 Bl aj aa ab ak (K.2.2.2.1))) ⟨aI,bw,bx,a1,a2,bv,rfl,rfl,(Le.refl _),bC,bA,bz⟩ ?_;rintro _ _ K ⟨aj,av,aw,aa,ab,ak,rfl,rfl,aK,a4,a5,aL⟩ bM ⟨cy,aM⟩ bN;have aN:=aM;unfold I8 at aN;refine zg 5 rfl ?_;refine JL.Y rfl (fun ρ h=>Yl.len rfl underlying25 (h _ _ rfl)) ?_;refine zg 2 rfl ?_;refine JL.ifs (p:=K.2.2.2.2<((K.2.2.2.1).length:Int)) rfl (fun aO=>?_) (fun aO=>?_)
  ·have bO:=ip aN aO;obtain⟨a6,bP,bQ⟩:=bs bO;refine zg 6 rfl ?_;refine JS.Bu 0 (HJ a5 bP) rfl rfl (Aw func97 rfl) a4 rfl ?_;rintro _ a7 _ ay ⟨bR,bS,rfl,rfl,a8⟩ a9;obtain⟨U,ba,bT⟩:=bs bQ;refine JL.done ?_;refine JL.join (fun L s=>∃(al:LH) (az:Ar) (aA:Nat) (aB:Seg) (aC:Ar) (aD:Nat),Jn a7 H al [[(O,.cells #[.slice aC (U.2.1).length aD,iV U.2.2.1,.int .u64 ((U.2.2.2:Nat):Int)] 92 (0,0))],aB] [(0,.pointer (some ⟨O,0,none⟩)),(4,.pointer (some ⟨ah,0,none⟩)),(9,.slice az (U.1).length aA),(10,iV K.2.2.2.2)] L s (OL 27 Bl al az aA aB (U.1)∧Ao rI al aC aD (U.2.1))) ?_ ?_
   ·rintro _ _ ⟨al,az,aA,aB,aC,aD,rfl,rfl,bU,bV,bW,bX⟩;obtain⟨bY,bZ,b0⟩:=bs bT;refine zg 3 rfl ?_;refine JL.Y rfl (fun ρ h=>Yl.A6 (h _ _ rfl) (h _ _ rfl) bZ) ?_;refine zg 2 rfl ?_;obtain rfl:=oi b0;exact JL.kw (bN _ _ (U.2.1,U.2.2.1,U.2.2.2,U.1,bY) ⟨al,aC,aD,az,aA,aB,rfl,rfl,((aK.trans ay).trans bU),bV,bX,bW⟩ aM) rfl
   ·intro bb;refine JL.split (t:=a6.1) rfl (fun aP=>?_) (fun aP=>?_)
    ·have b1:=ip ba aP;refine zg 4 rfl ?_;refine JL.fd underlying24 (Ag type22) rfl rfl rfl ?_;refine JL.ld 0 (aH.mono (((ai.trans a0).trans aK).trans ay)) (An underlying22) rfl rfl rfl ?_;refine JL.Y rfl (fun ρ h=>Yl.len rfl underlying22 (h _ _ rfl)) ?_;obtain⟨b2,b3,b4⟩:=bs b1;refine JL.Y rfl (fun ρ h=>Yl.Ba (h _ _ rfl) (h _ _ rfl) b3) ?_;obtain⟨W,b5,b6⟩:=bs b4;refine JS.Bu 0 (FG a8 b5) rfl rfl (Aw func41 rfl) a9 rfl ?_;rintro _ b7 _ bc ⟨b8,b9,rfl,rfl,ca⟩ cb;obtain⟨Z,cc,cd⟩:=bs b6;refine JS.Td 1 (aL.mono (ay.trans bc)) cc rfl rfl rfl rfl rfl rfl underlying25 (Ag type27) ?_;rintro aQ aE f138 _ ce ⟨_,_,rfl,rfl,rfl⟩ cf bd cg cz cA;refine JL.fd underlying27 (Ag type3) rfl rfl rfl ?_;refine JS.store (v:=iV W.1) (off:=aE+1) 1 rfl rfl rfl cb rfl rfl (Ag type3) (by simp [Value.cells,BJ]) ce (by have:=bd;simp only [Rp.n,rK,rN,rB,rP,rL] at this;show _+1≤_;omega) fun bf=>?_;rw [Pf (m:=1) (ws:= [iV Z.1,iV Z.2]) (vs:= [iV Z.1,iV W.1]) (by have:=bd;simp only [Rp.n,rK,rN,rB,rP,rL] at this;show _+2≤_;omega) cf rfl (Nat.le_of_ble_eq_true rfl)] at bf ⊢;have ci:=cg ((Z.1,W.1)) [iV Z.1,iV W.1] ⟨_,_,rfl,rfl,rfl⟩;have aR:(K.2.2.2.1.set (Int.toNat K.2.2.2.2) (Z.1,W.1)).length=(K.2.2.2.1).length:=List.length_set;refine JL.Cc (L':= [(0,.pointer (some ⟨O,0,none⟩)),(4,.pointer (some ⟨ah,0,none⟩)),(9,.slice aa ((K.2.2.2.1.set (Int.toNat K.2.2.2.2) (Z.1,W.1))).length ab),(10,iV K.2.2.2.2),(22,iV K.2.2.2.2),(23,.slice aa ((K.2.2.2.1.set (Int.toNat K.2.2.2.2) (Z.1,W.1))).length ab),(24,iV ((K.2.2.2.1).length:Int)),(25,.bool (decide (K.2.2.2.2<((K.2.2.2.1).length:Int)))),(28,.pointer (some ⟨O,0,none⟩)),(29,.bool a6.1),(30,.slice aa ((K.2.2.2.1.set (Int.toNat K.2.2.2.2) (Z.1,W.1))).length ab),(31,iV K.2.2.2.2),(32,.pointer (some ⟨O,0,none⟩)),(33,.pointer (some ⟨ah,0,none⟩)),(34,.slice am (p1.1).length an),(35,iV ((p1.1).length:Int)),(36,iV b2),(37,iV W.1),(38,.pointer (some ⟨aQ,aE,none⟩)),(39,.pointer (some ⟨aQ,aE+1,none⟩))]) ⟨rfl,rfl,by rw [aR];rfl,rfl,rfl,by rw [aR];rfl,rfl,rfl,rfl,rfl,by rw [aR];rfl,rfl,rfl,rfl,rfl,rfl,rfl,rfl,rfl,rfl,trivial⟩ ?_;refine JL.done ?_;obtain rfl:=oi cd;exact JL.kw (bb _ _ ⟨b7,aa,ab,[(aQ,.cells (A0 f138 aE [iV Z.1,iV W.1]) 27 (0,0))],b8,b9,rfl,rfl,bc,bf,ci,ca⟩) rfl
    ·have ck:=ib ba aP;refine JL.skip ?_;obtain rfl:=oi ck;exact JL.kw (bb _ _ ⟨a7,aa,ab,ak,bR,bS,rfl,rfl,(Le.refl _),a9,(aL.mono ay),a8⟩) rfl
  ·have cm:=im aN aO;refine JL.exit rfl ?_;obtain rfl:=oi cm;obtain rfl:=bM _ aM;exact JL.kw (bL _ _ ⟨aj,aa,ab,ak,av,aw,rfl,rfl,aK,a4,aL,a5⟩) rfl
end Pal
namespace Pal
theorem Ad.upto{S A:Type}{body:S→Option (A8 S A)}{Q:A→Prop}{K:S}{F:Nat}(n:Nat)(I:Nat→S→Prop)(W:I 0 K)(aa:n<F)
  (round:∀i s,i<n→I i s→Ad (body s) (A8.sat (I (i+1)) Q)) (last:∀s,I n s→Ad (body s) (fun st=>∃a,st= .done a∧Q a)):Ad (Pal.iter body F K) Q:=by
 refine Ad.iter (fun m s=>∃i,i≤n∧m=n - i∧I i s) ?_ (m:=n - 0) ⟨0,Nat.zero_le _,rfl,W⟩ (by omega);rintro m s ⟨i,hi,rfl,O⟩;rcases Nat.lt_or_ge i n with Z | ab
 ·refine(round i s Z O).mono ?_;intro st U;cases st with
  | more s'=>exact⟨n - (i+1),by omega,i+1,by omega,rfl,U⟩
  | done a=>exact U
 ·obtain rfl:i=n:=by omega
  refine(last s O).mono ?_;rintro st ⟨a,rfl,h⟩;exact h
theorem Ad.DR{α:Type}{o:Option α}{a:α}(h:Ad o (fun x=>x=a)):o=some a:=by obtain⟨x,K,rfl⟩:=h;exact K
theorem Kf(F:Nat)(a lo hi:Int):f101 F a lo hi=some (decide (a<lo∨hi<a)):=by
 unfold f101;by_cases h:a<lo
 ·simp [h]
 ·simp [h]
theorem QH(F:Nat){s n:Nat}(hs:s<65536)(W:n≤16):f103 F s (n:Int)=some (s.testBit n):=by
 unfold f103;have K:HW s (n:Int)=some (s>>>n):=by unfold HW;rw [if_pos (by omega)];rfl
 rw [K];simp only [Option.bind_some];have O:s>>>n<65536:=Nat.lt_of_le_of_lt (Nat.shiftRight_le _ _) hs;have U:Hh (s>>>n) 1=some (s>>>n&&& 1):=if_pos ⟨O,by omega⟩;rw [U];simp only [Option.bind_some];rw [Q9]
theorem NJ(F:Nat){s n:Nat}(hs:s<65536)(K:n<16):f90 F s (n:Int)=some (s ||| 1<<<n):=by
 unfold f90;have O:HP (n:Int)=some (1<<<n):=by unfold HP;rw [if_pos (by omega)];rfl
 rw [O];simp only [Option.bind_some];have U:1<<<n<65536:=by rw [Nat.one_shiftLeft];exact Nat.pow_lt_pow_right (by omega) (show n<16 from K)
 have W:GC s (1<<<n)=some (s ||| 1<<<n):=if_pos ⟨hs,U⟩;rw [W];rfl
theorem Jc{a b:Nat}(K:a<65536)(hb:b<65536):a ||| b<65536:=Nat.or_lt_two_pow (n:=16) K hb
theorem NM{n:Nat}(K:n<16):1<<<n<65536:=by rw [Nat.one_shiftLeft];exact Nat.pow_lt_pow_right (by omega) (show n<16 from K)
def FM(n:Nat)(l:List Int):Prop:=∀x∈l,0≤x∧x<(n:Int)
def B5(l:List Int):Nat:=l.foldl (fun s x=>s ||| 1<<<x.toNat) 0
theorem Pd(l:List Int)(x:Int):B5 (l++ [x])=B5 l ||| 1<<<x.toNat:=by simp [B5]
theorem Me{l:List Int}(h:FM 16 l):B5 l<65536:=by
 have key:∀(l:List Int) (s:Nat),s<65536→FM 16 l→l.foldl (fun s x=>s ||| 1<<<x.toNat) s<65536:=by
  intro l
  induction l with
  | nil=>intro s hs _;exact hs
  | cons x l O=>
   intro s hs K;have W:=K x (by simp);exact O _ (Jc hs (NM (by omega))) fun y U=>K y (by simp [U])
 exact key l 0 (by omega) h
theorem Iq{l:List Int}(h:∀x∈l,0≤x)(n:Nat):(B5 l).testBit n=decide ((n:Int)∈l):=by
 have key:∀(l:List Int) (s:Nat),(∀x∈l,0≤x)→(l.foldl (fun s x=>s ||| 1<<<x.toNat) s).testBit n=(s.testBit n || decide ((n:Int)∈l)):=by
  intro l
  induction l with
  | nil=>intro s _;simp
  | cons x l O=>
   intro s K;have W:=K x (by simp);rw [List.foldl_cons,O _ fun y U=>K y (by simp [U]),Nat.testBit_or];have e:(1<<<x.toNat).testBit n=decide ((n:Int)=x):=by
    rw [Nat.one_shiftLeft,Nat.testBit_two_pow];exact decide_eq_decide.2 ⟨fun h=>by omega,fun h=>by omega⟩
   rw [e,Bool.or_assoc];congr 1;simp
 rw [B5,key l 0 h];simp
theorem MO{F:Nat}{l:List Int}(W:100<F)(Z:l.length<100)(h:FM 16 l):f120 F l=some (B5 l):=by
 refine Ad.DR ?_;unfold f120;refine Ad.b (S:=fun r=>r=B5 l) ?_ (by rintro r rfl;exact Ad.intro rfl);refine Ad.upto l.length (fun i s=>s=(B5 (l.take i),(i:Int))) (by simp [B5]) (by omega) ?_ ?_
 ·rintro i s hi rfl;unfold IN;refine Ad.pos (by simp;omega) ?_;refine Ad.BC (m:=i) rfl hi ?_;have aa:=h l[i] (List.getElem_mem hi);have O:l[i]=((l[i].toNat:Nat):Int):=by omega
  have hs:B5 (l.take i)<65536:=Me fun y U=>h y (List.mem_of_mem_take U);have K:=NJ F (n:=l[i].toNat) hs (by omega);rw [← O] at K;refine Ad.be K ?_;refine Ad.A1 ((i+1:Nat):Int) (by simp) (by omega) (by omega) ?_;refine Ad.intro ?_;show _=_;rw [List.take_add_one,List.getElem?_eq_getElem hi];simp only [Option.toList_some];rw [Pd]
 ·rintro s rfl;unfold IN;refine Ad.neg (by simp) ?_;exact Ad.intro ⟨_,rfl,by simp⟩
def BY(s:Nat)(k:Nat):List Int:=((List.range k).filter (fun n=>s.testBit n)).map (fun(n:Nat)=>(n:Int))
theorem OY(s k:Nat):BY s (k+1)=if s.testBit k=true then BY s k++ [(k:Int)] else BY s k:=by
 unfold BY;rw [List.range_succ,List.filter_append];by_cases h:s.testBit k=true
 ·rw [if_pos h];simp [h]
 ·rw [if_neg h];simp [h]
theorem Io(s k:Nat):(BY s k).length≤k:=by
 unfold BY;rw [List.length_map];exact Nat.le_trans (List.length_filter_le _ _) (by simp)
theorem GH{s k:Nat}{x:Int}:x∈BY s k↔∃n:Nat,n<k∧s.testBit n=true∧x=(n:Int):=by
 unfold BY;simp only [List.mem_map,List.mem_filter,List.mem_range];exact⟨fun⟨n,⟨K,O⟩,U⟩=>⟨n,K,O,U.symm⟩,fun⟨n,K,O,U⟩=>⟨n,⟨K,O⟩,U.symm⟩⟩
theorem Kw{F s:Nat}(K:100<F)(hs:s<65536):f89 F s=some (BY s 16):=by
 refine Ad.DR ?_;unfold f89;refine Ad.b (S:=fun r=>r=BY s 16) ?_ (by rintro r rfl;exact Ad.intro rfl);refine Ad.upto 16 (fun i st=>st=(BY s i,(i:Int))) rfl (by omega) ?_ ?_
 ·rintro i st hi rfl;unfold I5;refine Ad.pos (by simp only;omega) ?_;refine Ad.be (QH F hs (by omega)) ?_;have hlen:=Io s i;refine Ad.b (S:=fun r=>r=BY s (i+1)) ?_ ?_
  ·rw [OY];refine Ad.ite (fun h=>?_) (fun h=>?_)
   ·rw [if_pos h];exact Ad.Ky (by simp only;omega) (Ad.intro rfl)
   ·rw [if_neg h];exact Ad.intro rfl
  ·rintro r rfl;refine Ad.A1 ((i+1:Nat):Int) (by simp) (by omega) (by omega) ?_;exact Ad.intro rfl
 ·rintro st rfl;unfold I5;exact Ad.neg (by simp) (Ad.intro ⟨_,rfl,rfl⟩)
end Pal
namespace Pal
abbrev JW:=List (List Int)×List (List Int)
structure VL (n:Nat) (l:List Int):Prop where
 len:l.length≤3
 inr:FM n l
 GD:l.Pairwise (·<·)
structure VJ (n:Nat) (J:JW):Prop where
 pos:0<n
 le:n≤8
 l1:J.1.length=n
 l2:J.2.length=n
 nx:∀(i:Nat) l,J.1[i]? =some l→VL n l∧0<l.length
 fl:∀(i:Nat) l,J.2[i]? =some l→VL n l∧(i:Int) ∉ l
theorem RI{l:List Int}(h:l.Pairwise (·<·)){i:Nat}(hi:i<l.length)(K:0<i):¬(l[i]≤l[i - 1]'(by omega)):=by
 have:=List.pairwise_iff_getElem.1 h (i - 1) i (by omega) hi (by omega);omega
theorem MX{F n:Nat}{J:JW}{m:Nat}{l:List Int}{b:Bool}(O:100<F)(U:J.1.length=n)(W:0<n∧n≤8)(K:VL n l)(hb:b=true∨(m:Int) ∉ l):f136 F J (m:Int) l b=some none:=by
 refine Ad.DR ?_;unfold f136;have hlen:=K.len;refine Ad.b (S:=fun q=>q=Sum.inr ()) ?_ (by rintro q rfl;exact Ad.intro rfl);refine Ad.upto l.length (fun i s=>s=(i:Int)) rfl (by omega) ?_ ?_
 ·rintro i s hi rfl;unfold IC;have Z:=K.inr l[i] (List.getElem_mem hi);refine Ad.pos (by omega) ?_;refine Ad.BC (m:=i) rfl hi ?_;refine Ad.A1 ((n - 1:Nat):Int) (by omega) (by omega) (by omega) ?_;refine Ad.be (Kf F _ _ _) ?_;refine Ad.neg (by simp;omega) ?_;refine Ad.b (S:=fun c=>c=false) ?_ ?_
  ·refine Ad.ite (fun h=>?_) (fun h=>Ad.intro rfl);rcases hb with rfl | hb
   ·exact Ad.intro rfl
   ·exact absurd (h▸List.getElem_mem hi) hb
  ·rintro c rfl;refine Ad.neg (by simp) ?_;refine Ad.b (S:=fun c=>c=false) ?_ ?_
   ·refine Ad.ite (fun h=>?_) (fun h=>Ad.intro rfl);refine Ad.A1 ((i - 1:Nat):Int) (by omega) (by omega) (by omega) ?_;refine Ad.BC (m:=i - 1) rfl (by omega) ?_;exact Ad.intro (decide_eq_false (RI K.GD hi (by omega)))
   ·rintro c rfl;refine Ad.neg (by simp) ?_;refine Ad.A1 ((i+1:Nat):Int) (by simp) (by omega) (by omega) ?_;exact Ad.intro rfl
 ·rintro s rfl;unfold IC;exact Ad.neg (by omega) (Ad.intro ⟨_,rfl,rfl⟩)
theorem M6{F n:Nat}{J:JW}(U:100<F)(K:VJ n J):f113 F J=some none:=by
 have W:=K.l1;have ae:=K.l2;have Z:=K.pos;have aa:=K.le;refine Ad.DR ?_;unfold f113;refine Ad.neg (by omega) (Ad.neg (by omega) (Ad.neg (by omega) ?_));refine Ad.b (S:=fun q=>q=Sum.inr ()) ?_ (by rintro q rfl;exact Ad.intro rfl);refine Ad.upto n (fun i s=>s=(i:Int)) rfl (by omega) ?_ ?_
 ·rintro i s hi rfl;unfold IM;have ab:i<J.1.length:=by omega
  have O:i<J.2.length:=by omega
  obtain⟨v1,v2⟩:=K.nx i _ (List.getElem?_eq_getElem ab);obtain⟨w1,w2⟩:=K.fl i _ (List.getElem?_eq_getElem O);have ag:=v1.len;have ah:=w1.len;refine Ad.pos (by omega) ?_;refine Ad.BC (m:=i) rfl ab ?_;refine Ad.neg (by omega) (Ad.neg (by omega) ?_);refine Ad.be (MX U W ⟨Z,aa⟩ v1 (.inl rfl)) ?_;refine Ad.neg (by simp) ?_;refine Ad.BC (m:=i) rfl O ?_;refine Ad.neg (by omega) ?_;refine Ad.BC (m:=i) rfl O ?_;refine Ad.be (MX U W ⟨Z,aa⟩ w1 (.inr w2)) ?_;refine Ad.neg (by simp) ?_;refine Ad.A1 ((i+1:Nat):Int) (by simp) (by omega) (by omega) ?_;exact Ad.intro rfl
 ·rintro s rfl;unfold IM;exact Ad.neg (by omega) (Ad.intro ⟨_,rfl,rfl⟩)
theorem LF(F:Nat):Ha F none=some 0:=by
 unfold Ha f112;have h:∃b,f135 F=some b:=by unfold f135;exact⟨_,rfl⟩
 obtain⟨b,hb⟩:=h;rw [hb];cases b <;> rfl
theorem TD{F n:Nat}{J:JW}(K:100<F)(O:VJ n J):f67 F J=some 0:=by
 unfold f67;rw [M6 K O];simp only [Option.bind_some];rw [LF];rfl
def EP(nx:List (List Int))(s:Nat):Nat:=(BY s 16).foldl (fun o m=>o ||| B5 (nx.getD m.toNat [])) 0
theorem VJ.Fv{n:Nat}{J:JW}(K:VJ n J)(m:Nat):VL n (J.1.getD m []):=by
 rw [List.getD_eq_getElem?_getD];cases h:J.1[m]? with
 | none=>exact⟨by simp,fun x O=>by simp at O,by simp⟩
 | some l=>exact(K.nx m l h).1
theorem FM.mono{n m:Nat}{l:List Int}(h:FM n l)(hle:n≤m):FM m l:=fun x K=>by have:=h x K;omega
theorem MC{n:Nat}{J:JW}(U:VJ n J)(s k:Nat):(EP J.1 s).testBit k=true↔∃m,m<16∧s.testBit m=true∧(k:Int)∈J.1.getD m []:=by
 have key:∀(l:List Int) (o:Nat),(l.foldl (fun o m=>o ||| B5 (J.1.getD m.toNat [])) o).testBit k=true↔o.testBit k=true∨∃m∈l,(k:Int)∈J.1.getD m.toNat []:=by
  intro l
  induction l with
  | nil=>intro o;simp
  | cons x l W=>
   intro o;rw [List.foldl_cons,W,Nat.testBit_or,Bool.or_eq_true,Iq fun y Z=>((U.Fv x.toNat).inr y Z).1,decide_eq_true_eq];simp only [List.mem_cons,exists_eq_or_imp,or_assoc]
 unfold EP;rw [key];simp only [Nat.zero_testBit,Bool.false_eq_true,false_or];constructor
 ·rintro⟨x,aa,ab⟩;obtain⟨m,K,O,rfl⟩:=GH.1 aa;exact⟨m,K,O,ab⟩
 ·rintro⟨m,K,O,ae⟩;exact⟨(m:Int),GH.2 ⟨m,K,O,rfl⟩,by simpa using ae⟩
theorem O2{n s:Nat}(h:∀k,n≤k→s.testBit k=false):s<2 ^ n:=Nat.lt_pow_two_of_testBit s h
theorem Nq{n:Nat}{J:JW}(K:VJ n J)(s:Nat):EP J.1 s<2 ^ n:=by
 refine O2 fun k U=>?_;cases h:(EP J.1 s).testBit k with
 | false=>rfl
 | true=>
  obtain⟨m,_,_,O⟩:=(MC K s k).1 h;have:=(K.Fv m).inr _ O;omega
theorem MJ{n:Nat}(h:n≤8):2 ^ n≤256:=Nat.pow_le_pow_right (by omega) h
theorem GM{n s k:Nat}(h:s<2 ^ n)(O:s.testBit k=true):k<n:=by
 rcases Nat.lt_or_ge k n with K | K
 ·exact K
 ·rw [Nat.testBit_lt_two_pow (Nat.lt_of_lt_of_le h (Nat.pow_le_pow_right (by omega) K))] at O;cases O
theorem PZ{F n:Nat}{J:JW}{A:List Nat}{s:Nat}(W:100<F)(K:VJ n J)(hs:s<2 ^ n):HH F (J.1,J.2,A) s=some (EP J.1 s,(J.1,J.2,A)):=by
 have ah:=K.l1;have ae:=K.le;have ai:=MJ ae;refine Ad.DR ?_;unfold HH;refine Ad.be (Kw W (by omega)) ?_;refine Ad.b (S:=fun r=>r=EP J.1 s) ?_ (by rintro r rfl;exact Ad.intro rfl);have hlen:=Io s 16;refine Ad.upto (BY s 16).length (fun i st=>st=(((BY s 16).take i).foldl (fun o m=>o ||| B5 (J.1.getD m.toNat [])) 0,(i:Int))∧((BY s 16).take i).foldl (fun o m=>o ||| B5 (J.1.getD m.toNat [])) 0<65536) ⟨rfl,by simp⟩ (by omega) ?_ ?_
 ·rintro i st hi ⟨rfl,Z⟩;unfold Iz;obtain⟨m,aj,ag,aa⟩:=GH.1 (List.getElem_mem hi);have hm:=GM hs ag;have O:m<J.1.length:=by omega
  have U:=(K.nx m _ (List.getElem?_eq_getElem O)).1;have ak:=U.len;refine Ad.pos (by simp;omega) ?_;refine Ad.BC (m:=i) rfl hi ?_;refine Ad.BC (m:=m) aa O ?_;refine Ad.be (MO W (show J.1[m].length<100 by omega) (U.inr.mono (by omega))) ?_;have ab:B5 J.1[m]<65536:=Me (U.inr.mono (by omega));refine Ad.be (b:=((BY s 16).take i).foldl (fun o m=>o ||| B5 (J.1.getD m.toNat [])) 0 ||| B5 J.1[m]) (if_pos ⟨Z,ab⟩) ?_;refine Ad.A1 ((i+1:Nat):Int) (by simp) (by omega) (by omega) ?_;have e:((BY s 16).take (i+1)).foldl (fun o m=>o ||| B5 (J.1.getD m.toNat [])) 0=((BY s 16).take i).foldl (fun o m=>o ||| B5 (J.1.getD m.toNat [])) 0 ||| B5 J.1[m]:=by
   rw [List.take_add_one,List.getElem?_eq_getElem hi,List.foldl_append,aa];simp [List.getD_eq_getElem?_getD,O]
  refine Ad.intro ⟨?_,?_⟩
  ·rw [e]
  ·rw [e];exact Jc Z ab
 ·rintro st ⟨rfl,_⟩;unfold Iz;refine Ad.neg (by simp) (Ad.intro ⟨_,rfl,?_⟩);rw [List.take_length];rfl
def AG(J:JW):Nat→Nat
 | 0=>1
 | a+1=>EP J.1 (AG J a)
theorem HG{n:Nat}{J:JW}(K:VJ n J):∀a,AG J a<2 ^ n
 | 0=>Nat.one_lt_two_pow (by have:=K.pos;omega)
 | a+1=>Nq K _
def Ek(J:JW):List Nat:=(List.range 13).map (AG J)
def H7(J:JW)(n k:Nat)(A:List Nat):Prop:=A.length=13∧(∀i,i≤k→i<13→A[i]? =some (AG J i))∧∀x∈A,x<2 ^ n
theorem H7.all{J:JW}{n:Nat}{A:List Nat}(h:H7 J n 12 A):A=Ek J:=by
 apply List.ext_getElem?;intro i;rcases Nat.lt_or_ge i 13 with hi | hi
 ·rw [h.2.1 i (by omega) hi];simp [Ek,hi]
 ·rw [List.getElem?_eq_none (by rw [h.1];exact hi),List.getElem?_eq_none (by simp [Ek];exact hi)]
theorem LQ{F n:Nat}{J:JW}{A:List Nat}(ae:100<F)(Z:VJ n J)(ag:A.length=13)(aa:∀x∈A,x<2 ^ n):
  Ad (iter (Hx F) F (J.1,J.2,A,A,0)) (fun r=>r.1=J.1∧r.2.1=J.2∧r.2.2.1=A∧r.2.2.2.length=13∧r.2.2.2[0]? =A[0]? ∧(∀i,i<12→∀s,A[i]? =some s→r.2.2.2[i+1]? =some (EP J.1 s))∧∀x∈r.2.2.2,x<2 ^ n):=by
 refine Ad.upto 12 (fun k st=>∃B:List Nat,st=(J.1,J.2,A,B,(k:Int))∧B.length=13∧B[0]? =A[0]? ∧(∀i,i<k→∀s,A[i]? =some s→B[i+1]? =some (EP J.1 s))∧∀x∈B,x<2 ^ n) ⟨A,rfl,ag,rfl,fun i hi=>by omega,aa⟩ (by omega) ?_ ?_
 ·rintro k st ai ⟨B,rfl,K,O,hs,hb⟩;unfold Hx;have U:k<A.length:=by omega
  have ab:k+1<B.length:=by omega
  refine Ad.pos (by simp only;omega) ?_;refine Ad.A1 ((k+1:Nat):Int) (by simp) (by omega) (by omega) ?_;refine Ad.BC (m:=k) rfl U ?_;refine Ad.be (PZ ae Z (aa _ (List.getElem_mem U))) ?_;refine Ad.BC (m:=k+1) rfl ab ?_;refine Ad.A1 ((k+1:Nat):Int) (by simp) (by omega) (by omega) ?_;refine Ad.intro ⟨B.set (k+1) (EP J.1 A[k]),rfl,by simpa using K,?_,?_,?_⟩
  ·rw [List.getElem?_set_ne (by omega)];exact O
  ·intro i hi s W;by_cases e:i=k
   ·subst e;rw [List.getElem?_set_self ab];have:A[i]=s:=by rw [List.getElem?_eq_getElem U] at W;exact Option.some.inj W
    rw [this]
   ·rw [List.getElem?_set_ne (by omega)];exact hs i (by omega) s W
  ·intro x ah;rcases List.mem_or_eq_of_mem_set ah with h | h
   ·exact hb x h
   ·subst h;exact Nq Z _
 ·rintro st ⟨B,rfl,K,O,hs,hb⟩;unfold Hx;refine Ad.neg (by simp) (Ad.intro ⟨_,rfl,rfl,rfl,rfl,K,O,hs,hb⟩)
theorem RE{F n:Nat}{J:JW}(aj:100<F)(ag:VJ n J):f92 F J=some (some (J.1,J.2,Ek J)):=by
 have ar:=ag.pos;refine Ad.DR ?_;unfold f92;refine Ad.BC (m:=0) rfl (by simp) ?_;refine Ad.b (S:=fun q=>q=Sum.inl (some (J.1,J.2,Ek J))) ?_ (by rintro q rfl;exact Ad.intro rfl);refine Ad.upto 12 (fun k st=>∃A:List Nat,st=(J.1,J.2,A)∧H7 J n k A) ?_ (by omega) ?_ ?_
 ·refine⟨_,rfl,by simp,fun i hi _=>?_,fun x ak=>?_⟩
  ·obtain rfl:i=0:=by omega
   rfl
  ·rcases List.mem_or_eq_of_mem_set ak with h | h
   ·simp at h;subst h;exact Nat.two_pow_pos n
   ·subst h;exact Nat.one_lt_two_pow (by omega)
 ·rintro k st au ⟨A,rfl,K⟩;unfold IY;refine Ad.b (LQ aj ag K.1 K.2.2) ?_;rintro⟨al,am,ah,B⟩ ⟨Z,aa,ab,O,ae,U,W⟩;simp only at Z aa ab O ae U W ⊢;subst Z aa ab;refine Ad.ite (fun h=>?_) (fun h=>?_)
  ·refine Ad.intro ⟨B,rfl,O,fun i hi ai=>?_,W⟩;cases i with
   | zero=>rw [ae];exact K.2.1 0 (by omega) (by omega)
   | succ i=>exact U i (by omega) _ (K.2.1 i (by omega) (by omega))
  ·have e:B=ah:=Decidable.byContradiction fun an=>h an;subst e;refine Ad.intro ?_;show _=_;have ao:H7 J n 12 B:=by
    refine⟨O,fun i hi ai=>?_,W⟩;have:∀i,i<13→B[i]? =some (AG J i):=by
     intro i
     induction i with
     | zero=>intro _;exact K.2.1 0 (by omega) (by omega)
     | succ i ap=>intro h;exact U i (by omega) _ (ap (by omega))
    exact this i ai
   rw [ao.all]
 ·rintro st ⟨A,rfl,K⟩;unfold IY;refine Ad.b (LQ aj ag K.1 K.2.2) ?_;rintro⟨al,am,ah,B⟩ ⟨Z,aa,ab,O,ae,U,W⟩;simp only at Z aa ab O ae U W ⊢;subst Z aa ab;have aq:H7 J n 12 B:=by
   refine⟨O,fun i hi ai=>?_,W⟩;cases i with
   | zero=>rw [ae];exact K.2.1 0 (by omega) (by omega)
   | succ i=>exact U i (by omega) _ (K.2.1 i (by omega) (by omega))
  have e:B=ah:=by rw [aq.all,K.all]
  refine Ad.neg (by rw [e];simp) (Ad.intro ⟨_,rfl,?_⟩);rw [K.all]
end Pal
namespace Pal
theorem Rs(J:JW){a:Nat}(K:a<13):(Ek J)[a]? =some (AG J a):=by simp [Ek,K]
abbrev DU:=List Int×Int×Nat
def BG(k:Nat)(b:DU):Prop:=0≤b.2.1∧b.2.1≤(k:Int)
theorem BG.mono{k k':Nat}{b:DU}(h:BG k b)(K:k≤k'):BG k' b:=⟨h.1,by have:=h.2;omega⟩
theorem Rj{F k:Nat}{b:DU}(hb:BG k b)(K:k<1000000):Ad (f100 F b) (fun r=>r.1<2 ^ 64∧BG (k+1) r.2):=by
 obtain⟨O,U⟩:=hb;unfold f100;refine Ad.A1 (b.2.1+1) rfl (by omega) (by omega) ?_;have key:∀x:Nat,(x % 2 ^ 64)>>>11<2 ^ 64:=fun x=>Nat.lt_of_le_of_lt (Nat.shiftRight_le _ _) (Nat.mod_lt _ (Nat.two_pow_pos 64));refine Ad.b (S:=fun _=>True) ?_ ?_
 ·refine Ad.ite (fun h=>?_) (fun h=>?_)
  ·refine Ad.A1 b.2.1 (by omega) (by omega) (by omega) ?_;refine Ad.BC (m:=b.2.1.toNat) (by omega) (by omega) ?_;exact Ad.intro trivial
  ·exact Ad.intro trivial
 ·intro x _;exact Ad.intro ⟨key _,by simp only;omega,by simp only;omega⟩
theorem PR{a:Nat}(h:a<2 ^ 62):GB a=(a:Int):=by
 unfold GB;exact Gf (by omega)
theorem FD{F k:Nat}{b:DU}{m:Int}(hb:BG k b)(O:k<1000000)(hm:m<1000000):Ad (f41 F b m) (fun r=>0≤r.1∧(r.1≤m∨r.1=0)∧BG (k+1) r.2):=by
 unfold f41;refine Ad.b (Rj hb O) ?_;rintro⟨x,aa⟩ ⟨ab,K⟩;refine Ad.ite (fun h=>?_) (fun h=>?_)
 ·exact Ad.intro ⟨by simp,.inr rfl,K⟩
 ·have U:Ca m=m.toNat:=by unfold Ca;omega
  have W:(Ca m+1) % 2 ^ 64=m.toNat+1:=by rw [U];omega
  have Z:x % (m.toNat+1)<m.toNat+1:=Nat.mod_lt _ (by omega);refine Ad.be (b:=x % (m.toNat+1)) (by rw [W];unfold Je;rw [if_neg (by omega)]) ?_;refine Ad.intro ?_;simp only;generalize x % (m.toNat+1)=z at Z ⊢;rw [PR (by omega)];exact⟨by omega,.inl (by omega),K⟩
theorem Km{F k:Nat}{b:DU}{lo hi:Int}(hb:BG k b)(O:k<1000000)(Z:0≤lo)(aa:lo≤hi)(ab:hi<1000):Ad (f96 F b lo hi) (fun r=>lo≤r.1∧r.1≤hi∧BG (k+1) r.2):=by
 unfold f96;refine Ad.A1 (hi - lo) rfl (by omega) (by omega) ?_;refine Ad.b (FD hb O (by omega)) ?_;rintro⟨x,ae⟩ ⟨U,W,K⟩;simp only at U W K ⊢;refine Ad.A1 (lo+x) rfl (by omega) (by omega) ?_;exact Ad.intro ⟨by simp only;omega,by simp only;omega,K⟩
theorem HE{F k:Nat}{b:DU}{m:Int}(hb:BG k b)(K:k<1000000)(U:1≤m)(W:m<1000):Ad (f97 F b m) (fun r=>BG (k+1) r.2):=by
 unfold f97;refine Ad.A1 (m - 1) rfl (by omega) (by omega) ?_;refine Ad.b (FD hb K (by omega)) ?_;rintro⟨x,Z⟩ ⟨aa,ab,O⟩;exact Ad.intro O
theorem IV{F k:Nat}{b:DU}{l:List Int}(hb:BG k b)(U:k<1000000)(aa:0<l.length)(ab:l.length<1000):Ad (f99 F b l) (fun r=>r.1∈l∧BG (k+1) r.2):=by
 unfold f99;refine Ad.A1 ((l.length - 1:Nat):Int) (by omega) (by omega) (by omega) ?_;refine Ad.b (FD hb U (by omega)) ?_;rintro⟨x,ae⟩ ⟨W,Z,K⟩;simp only at W Z K ⊢;have O:x.toNat<l.length:=by omega
 refine Ad.BC (m:=x.toNat) (by omega) O ?_;exact Ad.intro ⟨List.getElem_mem O,K⟩
theorem Ro{F:Nat}{x:Int}(K:100<F):f98 F [] x=some [x]:=by
 obtain⟨F,rfl⟩:∃k,F=k+1:=⟨F - 1,by omega⟩;refine Ad.DR ?_;unfold f98;refine Ad.be (b:=([],false)) ?_ ?_
 ·unfold iter;rfl
 ·refine Ad.be (b:= [x]) ?_ (Ad.intro rfl)
  rfl
theorem Ri{F:Nat}{a x:Int}(ah:100<F):f98 F [a] x=some (if x<a then [x,a] else if x=a then [a] else [a,x]):=by
 obtain⟨F,rfl⟩:∃k,F=k+2:=⟨F - 2,by omega⟩;refine Ad.DR ?_;unfold f98;have U:Ay 1=some 1:=rfl;have W:ix [a] 0=some a:=rfl;have r0:room ([]:List Int) x=some [x]:=if_pos (by simp);have ab:room ([]:List Int) a=some [a]:=if_pos (by simp);have ae:room [x] a=some [x,a]:=if_pos (by simp);have ag:room [a] x=some [a,x]:=if_pos (by simp);have step:G0 (F+2) [a] x ([],false,0)=some (.more (if x<a then([x,a],true,1) else if x=a then([x],true,1) else([a],false,1))):=by
  unfold G0;rcases Int.lt_trichotomy x a with h | h | h
  ·have Z:x≤a:=by omega
   have aa:a≠x:=by omega
   simp [W,h,Z,aa,r0,ae,U]
  ·subst h;simp [W,r0,U]
  ·have Z:¬x≤a:=by omega
   have aa:a≠x:=by omega
   have K:¬x<a:=by omega
   have O:¬x=a:=by omega
   simp [W,Z,aa,K,O,ab,U]
 have last:∀(o:List Int) (b:Bool),G0 (F+2) [a] x (o,b,1)=some (.done (o,b)):=by
  intro o b;unfold G0;simp
 rcases Int.lt_trichotomy x a with h | h | h
 ·rw [if_pos h] at step;refine Ad.be (b:=([x,a],true)) ?_ ?_
  ·unfold iter;rw [step];simp only;unfold iter;rw [last]
  ·rw [if_pos h];exact Ad.be (b:= [x,a]) (by simp) (Ad.intro rfl)
 ·subst h;rw [if_neg (by omega),if_pos rfl] at step;refine Ad.be (b:=([x],true)) ?_ ?_
  ·unfold iter;rw [step];simp only;unfold iter;rw [last]
  ·rw [if_neg (show ¬x<x by omega),if_pos (rfl:x=x)];exact Ad.be (b:= [x]) (by simp) (Ad.intro rfl)
 ·have K:¬x<a:=by omega
  have O:¬x=a:=by omega
  rw [if_neg K,if_neg O] at step;refine Ad.be (b:=([a],false)) ?_ ?_
  ·unfold iter;rw [step];simp only;unfold iter;rw [last]
  ·rw [if_neg K,if_neg O];exact Ad.be (b:= [a,x]) (by simp [ag]) (Ad.intro rfl)
theorem NQ{F n:Nat}{l:List Int}{x:Int}(O:100<F)(U:FM n l)(W:l.length≤1)(Z:0≤x∧x<(n:Int)):Ad (f98 F l x) (fun r=>VL n r∧0<r.length∧r.length≤l.length+1∧∀y∈r,y=x∨y∈l):=by
 match l,W with
 | [],_=>
  rw [Ro O];exact Ad.intro ⟨⟨by simp,fun y K=>by simp at K;subst K;exact Z,by simp⟩,by simp,by simp,fun y K=>by simpa using K⟩
 | [a],_=>
  rw [Ri O];have aa:=U a (by simp);refine Ad.intro ?_;rcases Int.lt_trichotomy x a with h | h | h
  ·rw [if_pos h];exact⟨⟨by simp,fun y K=>by simp at K;rcases K with rfl | rfl <;> assumption,by simpa using h⟩,by simp,by simp,fun y K=>by simpa using K⟩
  ·rw [if_neg (by omega),if_pos h];exact⟨⟨by simp,fun y K=>by simp at K;subst K;exact aa,by simp⟩,by simp,by simp,fun y K=>by simp at K;subst K;simp⟩
  ·rw [if_neg (by omega),if_neg (by omega)];exact⟨⟨by simp,fun y K=>by simp at K;rcases K with rfl | rfl <;> assumption,by simpa using h⟩,by simp,by simp,fun y K=>by simp at K;rcases K with rfl | rfl <;> simp⟩
 | a::b::l,h=>simp at h
structure PJ (n i:Nat) (N K:List (List Int)):Prop where
 l1:N.length=i
 l2:K.length=i
 nx:∀(q:Nat) l,N[q]? =some l→VL n l∧0<l.length
 fl:∀(q:Nat) l,K[q]? =some l→VL n l∧(q:Int) ∉ l
theorem PJ.snoc{n i:Nat}{N U:List (List Int)}{a b:List Int}(h:PJ n i N U)(W:VL n a∧0<a.length)(hb:VL n b∧(i:Int) ∉ b):PJ n (i+1) (N++ [a]) (U++ [b]):=by
 refine⟨by simp [h.l1],by simp [h.l2],fun q l K=>?_,fun q l K=>?_⟩
 ·rcases Nat.lt_or_ge q N.length with O | O
  ·rw [List.getElem?_append_left O] at K;exact h.nx q l K
  ·rw [List.getElem?_append_right O] at K;have:q - N.length=0:=by
    rcases Nat.eq_zero_or_pos (q - N.length) with e | e
    ·exact e
    ·rw [List.getElem?_eq_none (by simp;omega)] at K;cases K
   rw [this] at K;simp at K;subst K;exact W
 ·rcases Nat.lt_or_ge q U.length with O | O
  ·rw [List.getElem?_append_left O] at K;exact h.fl q l K
  ·rw [List.getElem?_append_right O] at K;have e:q - U.length=0:=by
    rcases Nat.eq_zero_or_pos (q - U.length) with e | e
    ·exact e
    ·rw [List.getElem?_eq_none (by simp;omega)] at K;cases K
   rw [e] at K;simp at K;subst K;have:q=i:=by have:=h.l2;omega
   subst this;exact hb
theorem Pz{F n i k:Nat}{ae:Int×DU}{ag:(List (List Int))×(List (List Int))×(List Int)×Int×Nat×Int}{b:DU}{c:Int}(ap:100<F)(ah:ae.1=(n:Int))(ai:ag.2.2.2.2.2=(i:Int))(hi:i<n)(aw:n≤8)(hb:BG k b)(ay:k<1000)(az:c=0∨c=1∨c=2):
  Ad (iter (I3 F ae ag) F (b.1,b.2.1,b.2.2,[],c)) (fun r=>VL n r.1∧(i:Int) ∉ r.1∧BG (k+10) r.2):=by
 refine Ad.iter (fun m st=>∃(l:List Int) (K:DU),st=(K.1,K.2.1,K.2.2,l,(m:Int))∧m≤2∧VL n l∧(i:Int) ∉ l∧l.length≤2 - m∧BG (k+10 - 4*m) K) ?_ (m:=c.toNat) ⟨[],b,by simp;omega,by omega,⟨by simp,fun x aq=>by simp at aq,by simp⟩,by simp,by simp,hb.mono (by omega)⟩ (by omega);rintro m st ⟨l,K,rfl,aA,Z,aa,hlen,aj⟩;unfold I3;refine Ad.b (S:=fun q=>q=decide (0<m∧1<n)) ?_ ?_
 ·refine Ad.ite (fun h=>?_) (fun h=>?_)
  ·refine Ad.intro ?_;rw [ah];exact decide_eq_decide.2 ⟨fun ak=>⟨by simp only at h;omega,by omega⟩,fun ak=>by omega⟩
  ·refine Ad.intro ?_;have:¬0<m:=by simp only at h;omega
   simp [this]
 ·rintro q rfl;refine Ad.ite (fun h=>?_) (fun h=>?_)
  ·have ak:0<m∧1<n:=of_decide_eq_true h;refine Ad.A1 ((i:Int) - 1) (by rw [ai]) (by omega) (by omega) ?_;refine Ad.b (FD (F:=F) (b:=(K.1,K.2.1,K.2.2)) (m:=max 0 ((i:Int) - 1)) aj (by omega) (by omega)) ?_;rintro⟨y,aB⟩ ⟨al,ar,am⟩;simp only at al ar am ⊢;refine Ad.b (HE (F:=F) am (by omega) (by omega) (by omega)) ?_;rintro⟨o,aC⟩ ab;simp only at ab ⊢;refine Ad.b (S:=fun r=>0≤r.1∧r.1<(n:Int)∧BG (k+10 - 4*m+1+1+1) r.2) ?_ ?_
   ·refine Ad.ite (fun _=>?_) (fun _=>?_)
    ·refine Ad.A1 ((n:Int) - 1) (by rw [ah]) (by omega) (by omega) ?_;refine Ad.b (FD (F:=F) ab (by omega) (by omega)) ?_;rintro⟨z,an⟩ ⟨O,U,W⟩;exact Ad.intro ⟨O,by simp only at O U ⊢;omega,W⟩
    ·exact Ad.intro ⟨al,by simp only;omega,BG.mono ab (by omega)⟩
   ·rintro⟨z,an⟩ ⟨O,U,W⟩;simp only at O U W ⊢;refine Ad.b (S:=fun r=>VL n r∧(i:Int) ∉ r∧r.length≤l.length+1) ?_ ?_
    ·rw [ai];refine Ad.ite (fun au=>?_) (fun _=>?_)
     ·refine Ad.b (NQ (F:=F) ap Z.inr (by omega) ⟨O,U⟩) ?_;rintro r ⟨v1,v2,ao,v4⟩;refine Ad.intro ⟨v1,fun av=>?_,ao⟩;rcases v4 _ av with e | e
      ·exact au e.symm
      ·exact aa e
     ·exact Ad.intro ⟨Z,aa,by omega⟩
    ·rintro r ⟨v1,v2,ao⟩;refine Ad.A1 ((m - 1:Nat):Int) (by omega) (by omega) (by omega) ?_;exact Ad.intro ⟨m - 1,by omega,r,an,rfl,by omega,v1,v2,by omega,W.mono (by omega)⟩
  ·exact Ad.intro ⟨Z,aa,aj.mono (by omega)⟩
theorem RP{F k mx:Nat}{b:DU}(ak:100<F)(hb:BG k b)(aE:k<100)(aF:1≤mx)(aG:mx≤8):Ad (f39 F b (mx:Int)) (fun r=>(∃n,n≤mx∧VJ n r.1)∧BG (k+301) r.2):=by
 unfold f39;refine Ad.b (Km (F:=F) hb (by omega) (by omega) (by omega) (by omega)) ?_;rintro⟨al,ay⟩ ⟨n1,az,am⟩;simp only at n1 az am;obtain⟨n,rfl⟩:∃n:Nat,al=(n:Int):=⟨al.toNat,by omega⟩;have aH:1≤n:=by omega
 have an:n≤8:=by omega
 refine Ad.b (S:=fun r=>PJ n n r.2.2.2.1 r.2.2.2.2∧BG (k+301) (r.1,r.2.1,r.2.2.1)) ?_ ?_
 ·refine Ad.upto n (fun i st=>∃(N O:List (List Int)) (Z:DU),st=(N,O,Z.1,Z.2.1,Z.2.2,(i:Int))∧PJ n i N O∧BG (k+1+30*i) Z) ⟨[],[],ay,rfl,⟨rfl,rfl,fun q l ab=>by simp at ab,fun q l ab=>by simp at ab⟩,am⟩ (by omega) ?_ ?_
  ·rintro i st hi ⟨N,O,aa,rfl,K,ae⟩;unfold I7;refine Ad.pos (by simp only;omega) ?_;refine Ad.A1 ((n:Int) - 1) rfl (by omega) (by omega) ?_;refine Ad.A1 ((i+1:Nat):Int) (by simp) (by omega) (by omega) ?_;refine Ad.b (HE (F:=F) (b:=(aa.1,aa.2.1,aa.2.2)) ae (by omega) (by omega) (by omega)) ?_;rintro⟨o,aI⟩ ag;simp only at ag ⊢;have ao:FM n [min ((n:Int) - 1) ((i+1:Nat):Int)]:=fun x U=>by simp at U;subst U;omega
   refine Ad.b (S:=fun r=>VL n r.1∧0<r.1.length∧BG (k+1+30*i+2) r.2) ?_ ?_
   ·refine Ad.ite (fun _=>?_) (fun _=>?_)
    ·refine Ad.A1 ((n:Int) - 1) rfl (by omega) (by omega) ?_;refine Ad.b (Km (F:=F) ag (by omega) (by omega) (by omega) (by omega)) ?_;rintro⟨y,ap⟩ ⟨ah,ai,W⟩;simp only at ah ai W ⊢;refine Ad.b (NQ (F:=F) ak ao (by simp) ⟨by omega,by omega⟩) ?_;rintro r ⟨v1,v2,aJ,v4⟩;exact Ad.intro ⟨v1,v2,W⟩
    ·exact Ad.intro ⟨⟨by simp,ao,by simp⟩,by simp,BG.mono ag (by omega)⟩
   ·rintro⟨nx,ap⟩ ⟨w1,w2,w3⟩;simp only at w1 w2 w3 ⊢;refine Ad.b (HE (F:=F) (b:=ap) w3 (by omega) (by omega) (by omega)) ?_;rintro⟨aK,aL⟩ aj;simp only at aj ⊢;refine Ad.b (S:=fun r=>VL n r.1∧0<r.1.length∧BG (k+1+30*i+4) r.2) ?_ ?_
    ·refine Ad.ite (fun _=>?_) (fun _=>?_)
     ·refine Ad.A1 ((n:Int) - 1) rfl (by omega) (by omega) ?_;refine Ad.b (FD (F:=F) aj (by omega) (by omega)) ?_;rintro⟨y,aq⟩ ⟨ah,ai,W⟩;simp only at ah ai W ⊢;exact Ad.intro ⟨⟨by simp,fun x U=>by simp at U;subst U;omega,by simp⟩,by simp,W⟩
     ·exact Ad.intro ⟨w1,w2,BG.mono aj (by omega)⟩
    ·rintro⟨ar,aq⟩ ⟨u1,au,av⟩;simp only at u1 au av ⊢;refine Ad.b (IV (F:=F) (b:=aq) av (by omega) (by simp) (by simp)) ?_;rintro⟨c,aA⟩ ⟨aw,c2⟩;simp only at aw c2 ⊢;have aB:c=0∨c=1∨c=2:=by simp at aw;omega
     refine Ad.b (Pz (F:=F) (b:=aA) ak rfl rfl hi an c2 (by omega) aB) ?_;rintro⟨fl,aC⟩ ⟨t1,t2,t3⟩;simp only at t1 t2 t3 ⊢;have aM:=K.l1;have aN:=K.l2;refine Ad.be (b:=N++ [ar]) (if_pos (by simp;omega)) ?_;refine Ad.be (b:=O++ [fl]) (if_pos (by simp;omega)) ?_;refine Ad.A1 ((i+1:Nat):Int) (by simp) (by omega) (by omega) ?_;exact Ad.intro ⟨N++ [ar],O++ [fl],aC,rfl,K.snoc ⟨u1,au⟩ ⟨t1,t2⟩,t3.mono (by omega)⟩
  ·rintro st ⟨N,O,aa,rfl,K,ae⟩;unfold I7;refine Ad.neg (by simp) (Ad.intro ⟨_,rfl,K,ae.mono (by omega)⟩)
 ·rintro⟨aO,aP,aQ,N,O⟩ ⟨K,aD⟩;refine Ad.intro ⟨⟨n,by omega,?_⟩,aD⟩;exact⟨by omega,an,K.l1,K.l2,K.nx,K.fl⟩
end Pal
namespace Pal
open Go Go.Conc Go.Proofs
open Go.Proofs.Tryz
end Pal
namespace Pal
end Pal
namespace Pal
open Go Go.Conc Go.Proofs
open Go.Proofs.Tryz
end Pal
namespace Pal
theorem VJ.Oq{n:Nat}{J:JW}(K:VJ n J)(m:Nat):VL n (J.2.getD m []):=by
 rw [List.getD_eq_getElem?_getD];cases h:J.2[m]? with
 | none=>exact⟨by simp,fun x O=>by simp at O,by simp⟩
 | some l=>exact(K.fl m l h).1
end Pal
namespace Pal
abbrev Bw:=List (Int×Int)
structure Bt (n:Nat) (K:Bw):Prop where
 len:K.length≤8
 yr:∀l∈K,0≤l.1∧l.1≤6
 sn:∀l∈K,0≤l.2∧l.2<(n:Int)
 GD:K.Pairwise (fun a b=>a.1≤b.1)
theorem QB{F n:Nat}{J:JW}{K:Bw}(W:100<F)(O:VJ n J)(U:Bt n K)(Z:K.length≤4):f116 F J K=some none:=by
 have aa:=O.l1;have ab:=O.pos;have ae:=O.le;refine Ad.DR ?_;unfold f116;refine Ad.neg (by omega) ?_;refine Ad.b (S:=fun q=>q=Sum.inr ()) ?_ (by rintro q rfl;exact Ad.intro rfl);refine Ad.upto K.length (fun i s=>s=(i:Int)) rfl (by omega) ?_ ?_
 ·rintro i s hi rfl;unfold ID;have hm:=List.getElem_mem hi;have ag:=U.yr _ hm;have hs:=U.sn _ hm;refine Ad.pos (by omega) ?_;refine Ad.BC (m:=i) rfl hi ?_;refine Ad.be (Kf F _ _ _) ?_;refine Ad.neg (by simp;omega) ?_;refine Ad.b (S:=fun c=>c=false) ?_ ?_
  ·refine Ad.ite (fun h=>?_) (fun h=>Ad.intro rfl);refine Ad.A1 ((i - 1:Nat):Int) (by omega) (by omega) (by omega) ?_;refine Ad.BC (m:=i - 1) rfl (by omega) ?_;have:=List.pairwise_iff_getElem.1 U.GD (i - 1) i (by omega) hi (by omega);exact Ad.intro (decide_eq_false (by omega))
  ·rintro c rfl;refine Ad.neg (by simp) ?_;refine Ad.A1 ((n - 1:Nat):Int) (by omega) (by omega) (by omega) ?_;refine Ad.be (Kf F _ _ _) ?_;refine Ad.neg (by simp;omega) ?_;refine Ad.A1 ((i+1:Nat):Int) (by simp) (by omega) (by omega) ?_;exact Ad.intro rfl
 ·rintro s rfl;unfold ID;exact Ad.neg (by omega) (Ad.intro ⟨_,rfl,rfl⟩)
theorem NA{F n:Nat}{J:JW}{K:Bw}(O:100<F)(U:VJ n J)(W:Bt n K)(Z:K.length≤4):f69 F J K=some 0:=by
 unfold f69;rw [M6 O U];simp only [Option.bind_some,Option.isSome_none,Bool.false_eq_true,if_false];rw [QB O U W Z];simp only [Option.bind_some];rw [LF];rfl
def Cg(K:Bw):Nat:=match K.getLast? with
 | some l=>l.1.toNat
 | none=>0
theorem JZ{n:Nat}{K:Bw}(O:Bt n K):Cg K≤6:=by
 unfold Cg;split
 ·rename_i l h;have:=O.yr l (List.mem_of_getLast? h);omega
 ·omega
theorem Mz{F n:Nat}{U:JW}{A:List Nat}{K:Bw}{age:Int}{ms:List Int}{fl:Nat}(W:Bt n K):HO F ((U.1,U.2,A),K,age,ms,fl)=some ((Cg K:Nat):Int):=by
 have Z:=W.len;refine Ad.DR ?_;unfold HO Cg;refine Ad.ite (fun h=>?_) (fun h=>?_)
 ·simp only at h;have:K= []:=List.length_eq_zero_iff.1 (by omega);subst this;exact Ad.intro rfl
 ·simp only at h;have O:K.length - 1<K.length:=by omega
  refine Ad.A1 ((K.length - 1:Nat):Int) (by simp only;omega) (by omega) (by omega) ?_;refine Ad.BC (m:=K.length - 1) rfl O ?_;rw [List.getLast?_eq_getElem?,List.getElem?_eq_getElem O];have:=W.yr _ (List.getElem_mem O);refine Ad.intro ?_;simp only;omega
def DM(J:JW)(m:Int)(l:Int×Int):Bool:=decide (m=l.2) || decide (l.2∈J.2.getD m.toNat [])
def DC(J:JW)(K:Bw)(y:Nat)(m:Int):Bool:=K.all fun l=>decide (l.1≠(y:Int)) || DM J m l
def Cd(K:Bw)(y:Nat)(m:Int):Nat→Nat
 | 0=>0
 | k+1=>match K[k]? with
  | some l=>if l.1=(y:Int)∧m≠l.2 then Cd K y m k ||| 1<<<k else Cd K y m k
  | none=>Cd K y m k
theorem IU(K:Bw)(y:Nat)(m:Int):∀k,k≤16→Cd K y m k<65536
 | 0,_=>by unfold Cd;omega
 | k+1,h=>by
  have:=IU K y m k (by omega)
  unfold Cd
  split
  ·split
   ·exact Jc this (NM (by omega))
   ·exact this
  ·exact this
theorem MQ(ab:Bw)(y:Nat)(m:Int)(i:Nat):∀k,(Cd ab y m k).testBit i=true↔i<k∧∃l,ab[i]? =some l∧l.1=(y:Int)∧m≠l.2
 | 0=>by simp [Cd]
 | k+1=>by
  have ae:=MQ ab y m i k
  have hb:(1<<<k).testBit i=decide (i=k):=by
   rw [Nat.one_shiftLeft,Nat.testBit_two_pow];exact decide_eq_decide.2 ⟨fun h=>h.symm,fun h=>h.symm⟩
  have key:∀P:Prop,(i<k∧P↔i<k+1∧P)∨i=k:=fun P=>by
   by_cases e:i=k
   ·exact .inr e
   ·exact .inl ⟨fun h=>⟨by omega,h.2⟩,fun h=>⟨by omega,h.2⟩⟩
  unfold Cd;split
  ·rename_i l U;split
   ·rename_i W;rw [Nat.testBit_or,Bool.or_eq_true,ae,hb,decide_eq_true_iff];constructor
    ·rintro(⟨O,K⟩ | rfl)
     ·exact⟨by omega,K⟩
     ·exact⟨by omega,l,U,W.1,W.2⟩
    ·rintro⟨O,K⟩;by_cases e:i=k
     ·exact .inr e
     ·exact .inl ⟨by omega,K⟩
   ·rename_i W;rw [ae];constructor
    ·rintro⟨O,K⟩;exact⟨by omega,K⟩
    ·rintro⟨O,ag,K,Z,aa⟩;by_cases e:i=k
     ·subst e;rw [U] at K;cases K;exact absurd ⟨Z,aa⟩ W
     ·exact⟨by omega,ag,K,Z,aa⟩
  ·rename_i U;rw [ae];constructor
   ·rintro⟨O,K⟩;exact⟨by omega,K⟩
   ·rintro⟨O,ag,K,Z,aa⟩;by_cases e:i=k
    ·subst e;rw [U] at K;cases K
    ·exact⟨by omega,ag,K,Z,aa⟩
theorem Qy{F:Nat}{l:List Int}{x:Int}(W:100<F)(Z:l.length<100):Ad (f201 F l x) (fun r=>decide (0≤r)=decide (x∈l)):=by
 unfold f201;refine Ad.b (S:=fun q=>match q with | Sum.inl r=>0≤r∧x∈l | Sum.inr _=>x ∉ l) ?_ ?_
 ·refine Ad.upto l.length (fun i s=>s=(i:Int)∧x ∉ l.take i) ⟨rfl,by simp⟩ (by omega) ?_ ?_
  ·rintro i s hi ⟨rfl,K⟩;unfold IK;refine Ad.pos (by omega) ?_;refine Ad.BC (m:=i) rfl hi ?_;refine Ad.ite (fun h=>?_) (fun h=>?_)
   ·exact Ad.intro ⟨by omega,by rw [h];exact List.getElem_mem hi⟩
   ·refine Ad.A1 ((i+1:Nat):Int) (by simp) (by omega) (by omega) ?_;refine Ad.intro ⟨rfl,?_⟩;rw [List.take_add_one,List.getElem?_eq_getElem hi];simp only [Option.toList_some,List.mem_append,List.mem_singleton];rintro(O | O)
    ·exact K O
    ·exact h O
  ·rintro s ⟨rfl,K⟩;unfold IK;exact Ad.neg (by omega) (Ad.intro ⟨_,rfl,by simpa using K⟩)
 ·rintro(r | u) U
  ·exact Ad.intro (by rw [decide_eq_true U.1,decide_eq_true U.2])
  ·exact Ad.intro (by rw [decide_eq_false U];rfl)
theorem Rr{F:Nat}{l:List Int}{x:Int}(K:100<F)(O:l.length<100):f199 F l x=some (decide (x∈l)):=by
 refine Ad.DR ?_;unfold f199;refine Ad.b (Qy K O) ?_;intro r U;exact Ad.intro U
theorem Re{F n m:Nat}{J:JW}{A:List Nat}{s:Int}(U:100<F)(O:VJ n J)(hm:m<n):f192 F (J.1,J.2,A) (m:Int) s=some (if(m:Int)=s then some ((m:Int),none) else if s∈J.2.getD m [] then some ((m:Int),some s) else none):=by
 have Z:=O.l2;refine Ad.DR ?_;unfold f192;refine Ad.ite (fun h=>?_) (fun h=>?_)
 ·rw [if_pos h];exact Ad.intro rfl
 ·rw [if_neg h];have W:J.2[m]? =some (J.2.getD m []):=by rw [List.getD_eq_getElem?_getD,List.getElem?_eq_getElem (by omega)];rfl
  refine Ad.be (Fg (m:=m) rfl W) ?_;refine Ad.be (Rr U (by have:=(O.Oq m).len;omega)) ?_;refine Ad.ite (fun K=>?_) (fun K=>?_)
  ·rw [if_pos (of_decide_eq_true K)];exact Ad.intro rfl
  ·rw [if_neg (of_decide_eq_false (by simpa using K))];exact Ad.intro rfl
theorem QT{F n m y:Nat}{J:JW}{A:List Nat}{K:Bw}{age:Int}{ms:List Int}{fl:Nat}(ah:100<F)(ai:VJ n J)(aj:Bt n K)(hm:m<n):
  HV F ((J.1,J.2,A),K,age,ms,fl) (y:Int) (m:Int)=some (if DC J K y (m:Int)=true then(Cd K y (m:Int) K.length,true) else(0,false)):=by
 have an:=aj.len;refine Ad.DR ?_;unfold HV;refine Ad.b (S:=fun q=>(DC J K y (m:Int)=true∧q=Sum.inr (Cd K y (m:Int) K.length))∨(DC J K y (m:Int)=false∧q=Sum.inl (0,false))) ?_ ?_
 ·refine Ad.upto K.length (fun i s=>s=(Cd K y (m:Int) i,(i:Int))∧∀l∈K.take i,(decide (l.1≠(y:Int)) || DM J (m:Int) l)=true) ⟨rfl,by simp⟩ (by omega) ?_ ?_
  ·rintro i s hi ⟨rfl,O⟩;unfold Ix;have ak:=IU K y (m:Int) i (by omega);have ag:K[i]? =some K[i]:=List.getElem?_eq_getElem hi;have step:∀(l:Int×Int),l=K[i]→(decide (l.1≠(y:Int)) || DM J (m:Int) l)=true→∀U∈K.take (i+1),(decide (U.1≠(y:Int)) || DM J (m:Int) U)=true:=by
    rintro l rfl al U Z;rw [List.take_add_one,ag] at Z;simp only [Option.toList_some,List.mem_append,List.mem_singleton] at Z;rcases Z with h | rfl
    ·exact O U h
    ·exact al
   have aa:Cd K y (m:Int) (i+1)=if K[i].1=(y:Int)∧(m:Int)≠K[i].2 then Cd K y (m:Int) i ||| 1<<<i else Cd K y (m:Int) i:=by
    rw [Cd,ag]
   refine Ad.pos (by simp only;omega) ?_;refine Ad.b (S:=fun q=>(q=Sum.inr (Cd K y (m:Int) (i+1))∧(decide (K[i].1≠(y:Int)) || DM J (m:Int) K[i])=true)∨(q=Sum.inl (0,false)∧(decide (K[i].1≠(y:Int)) || DM J (m:Int) K[i])=false)) ?_ ?_
   ·refine Ad.BC (m:=i) rfl hi ?_;refine Ad.ite (fun h=>?_) (fun h=>?_)
    ·refine Ad.intro (.inl ⟨?_,by rw [decide_eq_true h];rfl⟩);rw [aa,if_neg (fun ab=>h ab.1)]
    ·have am:K[i].1=(y:Int):=by simpa using h
     refine Ad.be (Re ah ai hm) ?_;by_cases e:(m:Int)=K[i].2
     ·rw [if_pos e];refine Ad.b (S:=fun q=>q=Sum.inr (Cd K y (m:Int) i)) (Ad.pos rfl (Ad.intro rfl)) ?_;rintro q rfl;refine Ad.intro (.inl ⟨?_,by unfold DM;rw [decide_eq_true e];simp⟩);rw [aa,if_neg (fun ab=>ab.2 e)]
     ·rw [if_neg e];by_cases W:K[i].2∈J.2.getD m []
      ·rw [if_pos W];refine Ad.b (S:=fun q=>q=Sum.inr (Cd K y (m:Int) i ||| 1<<<i)) ?_ ?_
       ·refine Ad.neg (by simp [Gu]) (Ad.pos rfl ?_);refine Ad.be (NJ F ak (by omega)) (Ad.intro rfl)
       ·rintro q rfl;refine Ad.intro (.inl ⟨?_,by unfold DM;rw [show((m:Int)).toNat=m by omega,decide_eq_true W];simp⟩);rw [aa,if_pos ⟨am,e⟩]
      ·rw [if_neg W];refine Ad.b (S:=fun q=>q=Sum.inl (0,false)) ?_ ?_
       ·exact Ad.neg (by simp [Gu]) (Ad.neg (by simp [Hd]) (Ad.intro rfl))
       ·rintro q rfl;refine Ad.intro (.inr ⟨rfl,?_⟩);unfold DM;rw [show((m:Int)).toNat=m by omega,decide_eq_false W,decide_eq_false e,decide_eq_false h];rfl
   ·rintro q (⟨rfl,ae⟩ | ⟨rfl,ae⟩)
    ·rw [Sum.elim_inr];refine Ad.A1 ((i+1:Nat):Int) (by simp) (by omega) (by omega) ?_;exact Ad.intro ⟨rfl,step _ rfl ae⟩
    ·rw [Sum.elim_inl];refine Ad.intro (.inr ⟨?_,rfl⟩);unfold DC;rw [List.all_eq_false];exact⟨K[i],List.getElem_mem hi,by rw [ae];simp⟩
  ·rintro s ⟨rfl,O⟩;unfold Ix;refine Ad.neg (by simp only;omega) (Ad.intro ⟨_,rfl,.inl ⟨?_,rfl⟩⟩);rw [List.take_length] at O;unfold DC;exact List.all_eq_true.2 O
 ·rintro q (⟨h,rfl⟩ | ⟨h,rfl⟩)
  ·rw [Sum.elim_inr,if_pos h];exact Ad.intro rfl
  ·rw [Sum.elim_inl,if_neg (by rw [h];simp)];exact Ad.intro rfl
theorem QP{F n m:Nat}{J:JW}{A:List Nat}{K:Bw}{age:Int}{ms:List Int}{fl:Nat}(U:100<F)(W:VJ n J)(O:Bt n K)(hm:m<n)(ab:ms.length<100)(Z:fl<65536):
  HY F (J.1,J.2,A) K age ms fl (m:Int)=some (if DC J K ms.length (m:Int)=true then some (ms++ [(m:Int)],fl ||| Cd K ms.length (m:Int) K.length) else none):=by
 refine Ad.DR ?_;unfold HY;refine Ad.be (QT U W O hm) ?_;have aa:=IU K ms.length (m:Int) K.length (by have:=O.len;omega);by_cases h:DC J K ms.length (m:Int)=true
 ·rw [if_pos h,if_pos h];refine Ad.neg (by simp) ?_;refine Ad.be (b:=ms) ?_ ?_
  ·unfold f175 HM;have:CF ([]:List Int) ms=some ms:=by unfold CF;rw [if_pos (by simp;omega)];rfl
   rw [this];rfl
  ·refine Ad.be (b:=ms++ [(m:Int)]) ?_ ?_
   ·unfold CF;rw [if_pos (by simp;omega)]
   ·exact Ad.be (if_pos ⟨Z,aa⟩) (Ad.intro rfl)
 ·rw [if_neg h,if_neg h];exact Ad.pos rfl (Ad.intro rfl)
end Pal
namespace Pal
def De(J:JW)(K:Bw):Nat→Nat→List Int→Nat→List (List Int×Nat)
 | 0,_,ms,fl=> [(ms,fl)]
 | k+1,sm,ms,fl=>(BY sm 16).flatMap fun m=>if DC J K ms.length m=true then De J K k (B5 (J.1.getD m.toNat [])) (ms++ [m]) (fl ||| Cd K ms.length m K.length) else []
theorem LP(s:Nat):(BY s 16).length≤16:=Io s 16
theorem Ii{α β:Type}{f:α→List β}{b:Nat}:∀{l:List α},(∀x∈l,(f x).length≤b)→(l.flatMap f).length≤l.length*b
 | [],_=>by simp
 | x::l,h=>by
  have O:=h x (by simp)
  have U:=Ii (l:=l) (fun y K=>h y (by simp [K]))
  simp only [List.flatMap_cons,List.length_append,List.length_cons,Nat.succ_mul]
  omega
theorem IL(J:JW)(K:Bw):∀k sm ms fl,(De J K k sm ms fl).length≤16 ^ k
 | 0,_,_,_=>by simp [De]
 | k+1,sm,ms,fl=>by
  unfold De
  refine Nat.le_trans (Ii (b:=16 ^ k) fun m _=>?_) ?_
  ·split
   ·exact IL J K k _ _ _
   ·simp
  ·rw [Nat.pow_succ,Nat.mul_comm];exact Nat.mul_le_mul_left _ (LP sm)
theorem Qd{k:Nat}(h:k≤7):16 ^ k≤268435456:=Nat.le_trans (Nat.pow_le_pow_right (by omega) h) (by decide)
theorem L4{α β:Type}{step:List β→α→Option (List β)}{f:α→List β}:∀{l:List α} {ac:List β},(∀(l1 l2:List α) x,l=l1++x::l2→step (ac++l1.flatMap f) x=some (ac++(l1++ [x]).flatMap f))→Dv step l ac=some (ac++l.flatMap f)
 | [],ac,_=>by simp [Dv]
 | x::l,ac,h=>by
  have K:=h [] l x rfl
  simp only [List.flatMap_nil,List.append_nil,List.nil_append] at K
  unfold Dv
  rw [K]
  simp only [Option.bind_some]
  rw [L4 (f:=f) (ac:=ac++ [x].flatMap f) (l:=l) ?_]
  ·simp
  ·intro l1 l2 y O;have:=h (x::l1) l2 y (by rw [O];rfl);simp only [List.flatMap_cons,List.flatMap_nil,List.append_nil,List.cons_append,List.append_assoc] at this ⊢;simpa using this
theorem Pe{α β:Type}{step:List β→α→Option (List β)}{f:α→List β}{l:List α}{ac:List β}(h:∀(l1 l2:List α) x,l=l1++x::l2→step (ac++l1.flatMap f) x=some (ac++l1.flatMap f++f x)):Dv step l ac=some (ac++l.flatMap f):=
 L4 fun l1 l2 x e=>by rw [h l1 l2 x e];simp
theorem R8{F n:Nat}{J:JW}{A:List Nat}{K:Bw}{age:Int}{ok:List (List Int×Nat)→Bool}(ab:100<F)(U:VJ n J)(W:Bt n K)(ar:∀l:List (List Int×Nat),l.length≤16 ^ 7→(∀x∈l,x.2<65536)→ok l=true):
  ∀(k g sm:Nat) (ms:List Int) (fl:Nat) (ac:List (List Int×Nat)),ms.length+k=Cg K+1→k<g→sm<2 ^ n→fl<65536→ac.length+16 ^ k≤16 ^ 7→(∀x∈ac,x.2<65536)→
   Ga ok F (J.1,J.2,A) K age g sm ms fl ac=some (ac++De J K k sm ms fl)∧∀x∈De J K k sm ms fl,x.2<65536:=by
 have aH:=JZ W;have au:=U.le;have aI:=MJ au;intro k
 induction k with
 | zero=>
  intro g sm ms fl ac av aw aj Z hlen ae;obtain⟨g,rfl⟩:∃g',g=g'+1:=⟨g - 1,by omega⟩;refine⟨?_,fun x O=>by simp [De] at O;subst O;exact Z⟩;unfold Ga;have ag:Gv F (J.1,J.2,A) K age ms fl sm=some none:=by
   unfold Gv;rw [Mz W];simp only [Option.bind_some];rw [if_pos (by omega)]
  rw [ag];simp only [Option.bind_some,Hg];rw [if_pos]
  ·rfl
  ·refine ar _ (by simpa using hlen) fun x O=>?_;rcases List.mem_append.1 O with O | O
   ·exact ae x O
   ·simp at O;subst O;exact Z
 | succ k ak=>
  intro g sm ms fl ac av aw aj Z hlen ae;obtain⟨g,rfl⟩:∃g',g=g'+1:=⟨g - 1,by omega⟩;have aJ:ms.length≤6:=by omega
  have aK:=LP sm;have al:∀m∈BY sm 16,∃q:Nat,m=(q:Int)∧q<n:=fun m hm=>by
   obtain⟨q,_,q2,ay⟩:=GH.1 hm;exact⟨q,ay,GM aj q2⟩
  have am:∀m:Int,fl ||| Cd K ms.length m K.length<65536:=fun m=>Jc Z (IU _ _ _ _ (by have:=W.len;omega))
  have an:∀q:Nat,q<n→B5 (J.1.getD q [])<2 ^ n:=fun q aa=>by
   rcases Nat.lt_or_ge (B5 (J.1.getD q [])) (2 ^ n) with h | h
   ·exact h
   ·obtain⟨i,aL,ao⟩:=Nat.exists_ge_and_testBit_of_ge_two_pow h;rw [Iq (fun x O=>((U.Fv q).inr x O).1)] at ao;have:=(U.Fv q).inr _ (of_decide_eq_true ao);omega
  have ap:∀m∈BY sm 16,DC J K ms.length m=true→∀x∈De J K k (B5 (J.1.getD m.toNat [])) (ms++ [m]) (fl ||| Cd K ms.length m K.length),x.2<65536:=fun m hm hb=>by
   obtain⟨q,rfl,aa⟩:=al m hm;have az:16 ^ k≤16 ^ 7:=Nat.pow_le_pow_right (by omega) (by omega);exact(ak (k+1) _ _ _ [] (by simp;omega) (by omega) (an q aa) (am _) (by simpa using az) (fun x O=>by simp at O)).2
  constructor
  ·unfold Ga;have ag:Gv F (J.1,J.2,A) K age ms fl sm=some (some (BY sm 16)):=by
    unfold Gv;rw [Mz W];simp only [Option.bind_some];rw [if_neg (by omega),Kw ab (by omega)];rfl
   rw [ag];simp only [Option.bind_some,Hg];rw [if_pos (by omega)];have e:De J K (k+1) sm ms fl=(BY sm 16).flatMap fun m=>if DC J K ms.length m=true then De J K k (B5 (J.1.getD m.toNat [])) (ms++ [m]) (fl ||| Cd K ms.length m K.length) else []:=rfl
   rw [e];refine Pe fun l1 l2 m hm=>?_;have aA:m∈BY sm 16:=by rw [hm];simp
   obtain⟨q,rfl,aa⟩:=al m aA;unfold KV;rw [QP ab U W aa (by omega) Z];simp only [Option.bind_some];by_cases hb:DC J K ms.length (q:Int)=true
   ·rw [if_pos hb,if_pos hb];simp only;have aB:H0 F (J.1,J.2,A) K age (ms++ [(q:Int)]) (fl ||| Cd K ms.length (q:Int) K.length) (q:Int)=some (B5 (J.1.getD q [])):=by
     unfold H0;have aC:J.1[q]? =some (J.1.getD q []):=by rw [List.getD_eq_getElem?_getD,List.getElem?_eq_getElem (by have:=U.l1;omega)];rfl
     have aq:=U.Fv q;rw [Fg (m:=q) rfl aC];simp only [Option.bind_some];rw [MO ab (by have:=aq.len;omega) (fun x O=>by have:=aq.inr x O;omega)];rfl
    rw [aB];simp only [Option.bind_some];have aD:l1.length+1≤16:=by
     have:=congrArg List.length hm;simp at this;omega
    have aM:(l1.flatMap fun m=>if DC J K ms.length m=true then De J K k (B5 (J.1.getD m.toNat [])) (ms++ [m]) (fl ||| Cd K ms.length m K.length) else []).length≤l1.length*16 ^ k:=Ii fun y _=>by
     split
     ·exact IL _ _ _ _ _ _
     ·simp
    have hmul:l1.length*16 ^ k+16 ^ k≤16 ^ (k+1):=by
     rw [Nat.pow_succ,← Nat.succ_mul,Nat.mul_comm _ 16];exact Nat.mul_le_mul_right _ aD
    have:=ak g (B5 (J.1.getD q [])) (ms++ [(q:Int)]) (fl ||| Cd K ms.length (q:Int) K.length) (ac++l1.flatMap fun m=>if DC J K ms.length m=true then De J K k (B5 (J.1.getD m.toNat [])) (ms++ [m]) (fl ||| Cd K ms.length m K.length) else []) (by simp;omega) (by omega) (an q aa) (am _) (by rw [List.length_append];omega) ?_
    ·rw [this.1,show((q:Int)).toNat=q by omega]
    ·intro x O;rcases List.mem_append.1 O with O | O
     ·exact ae x O
     ·obtain⟨y,aE,ah⟩:=List.mem_flatMap.1 O;have aF:y∈BY sm 16:=by rw [hm];simp [aE]
      split at ah
      ·rename_i aG;exact ap y aF aG x ah
      ·simp at ah
   ·rw [if_neg hb,if_neg hb];simp
  ·intro x O;unfold De at O;obtain⟨m,hm,ai⟩:=List.mem_flatMap.1 O;split at ai
   ·rename_i hb;exact ap m hm hb x ai
   ·simp at ai
end Pal
namespace Pal
abbrev BT:=Int×List Int×Nat
def Co(t:BT):Nat:=(BY t.2.2 16).length
theorem Rq{F:Nat}{t:BT}(K:100<F)(h:t.2.2<65536):f130 F t=some (Co t:Int):=by
 unfold f130;rw [Kw K h];rfl
def Ct(K:List BT)(q:Int×List BT):Prop:=(K= []∧q=(0,[]))∨∃k:Nat,q.1=(k:Int)∧(∃t∈K,Co t=k)∧(∀t∈K,k≤Co t)∧q.2=K.filter (fun t=>decide (Co t=k))
theorem Ct.len{K:List BT}{q:Int×List BT}(h:Ct K q):q.2.length≤K.length:=by
 rcases h with⟨_,rfl⟩ | ⟨k,_,_,_,h⟩
 ·simp
 ·rw [h];exact List.length_filter_le _ _
theorem Ct.sub{K:List BT}{q:Int×List BT}(h:Ct K q):∀t∈q.2,t∈K∧(Co t:Int)=q.1:=by
 rcases h with⟨_,rfl⟩ | ⟨k,O,_,_,h⟩
 ·simp
 ·intro t ht;rw [h] at ht;obtain⟨a,b⟩:=List.mem_filter.1 ht;exact⟨a,by rw [O,of_decide_eq_true b]⟩
theorem Ct.snoc(F:Nat){O:List BT}{q:Int×List BT}{t:BT}(h:Ct O q)(am:O.length<2 ^ 39):∃K,F7 F q.1 q.2 t (Co t:Int)=some K∧Ct (O++ [t]) K:=by
 have ai:=h.len;obtain⟨le,all⟩:=q;simp only at ai ⊢;have fresh:∀c:Bool,c=true→(∀s∈O,Co t<Co s)→∃K:Int×List BT,(Option.bind (if c=true then some ((Co t:Int),([]:List BT)) else some (le,all)) fun U=>Option.bind (if(Co t:Int)=U.1 then(CF U.2 ([t]:List BT)).bind fun aj=>some aj else some U.2) fun ak=>some (U.1,ak))=some K∧Ct (O++ [t]) K:=by
  rintro c rfl W;refine⟨((Co t:Int),[t]),?_,.inr ⟨Co t,rfl,⟨t,by simp,rfl⟩,?_,?_⟩⟩
  ·simp [CF]
  ·intro s hs;rcases List.mem_append.1 hs with hs | hs
   ·exact Nat.le_of_lt (W s hs)
   ·simp at hs;subst hs;exact Nat.le_refl _
  ·rw [List.filter_append,List.filter_eq_nil_iff.2 fun s hs=>by have:=W s hs;simp;omega];simp
 unfold F7;rcases h with⟨rfl,he⟩ | ⟨k,ah,⟨s,hs,aa⟩,ab,Z⟩
 ·cases he;simp only [List.length_nil];obtain⟨K,ae,ag⟩:=fresh true rfl (fun s hs=>by simp at hs);exact⟨K,by simpa using ae,ag⟩
 ·simp only at ah Z;subst ah;have al:¬((all.length:Int)=0):=by
   have:s∈all:=by rw [Z];exact List.mem_filter.2 ⟨hs,by simpa using aa⟩
   have:=List.length_pos_of_mem this;omega
  rw [if_neg al];simp only [Option.bind_some];rcases Nat.lt_trichotomy (Co t) k with W | heq | an
  ·obtain⟨K,ae,ag⟩:=fresh (decide ((Co t:Int)<(k:Int))) (decide_eq_true (by omega)) (fun s hs=>Nat.lt_of_lt_of_le W (ab s hs));exact⟨K,ae,ag⟩
  ·rw [if_neg (by rw [decide_eq_true_iff];omega)];simp only [Option.bind_some];rw [if_pos (by omega)];refine⟨((k:Int),all++ [t]),?_,.inr ⟨k,rfl,⟨s,by simp [hs],aa⟩,?_,?_⟩⟩
   ·unfold CF;rw [if_pos (by simp;omega)];rfl
   ·intro u hu;rcases List.mem_append.1 hu with hu | hu
    ·exact ab u hu
    ·simp at hu;subst hu;omega
   ·rw [List.filter_append,Z];simp [heq]
  ·rw [if_neg (by rw [decide_eq_true_iff];omega)];simp only [Option.bind_some];rw [if_neg (by omega)];refine⟨((k:Int),all),rfl,.inr ⟨k,rfl,⟨s,by simp [hs],aa⟩,?_,?_⟩⟩
   ·intro u hu;rcases List.mem_append.1 hu with hu | hu
    ·exact ab u hu
    ·simp at hu;subst hu;omega
   ·rw [List.filter_append,← Z];have:¬Co t=k:=by omega
    simp [this]
theorem JV{F:Nat}{a:Int}(O:100<F):∀(l:List (List Int×Nat)) (K:List BT) (q:Int×List BT),Ct K q→K.length+l.length<2 ^ 39→(∀x∈l,x.2<65536)→
  ∃U,Dv (add1 F a) l q=some U∧Ct (K++l.map fun x=>(a,x.1,x.2)) U
 | [],K,q,h,_,_=>⟨q,rfl,by simpa using h⟩
 | x::l,K,q,h,Z,W=>by
  simp only [List.length_cons] at Z
  obtain⟨q1,aa,ab⟩:=h.snoc F (t:=(a,x.1,x.2)) (by omega)
  obtain⟨q2,ae,ag⟩:=JV O l (K++ [(a,x.1,x.2)]) q1 ab (by simp;omega) (fun y ah=>W y (by simp [ah]))
  refine⟨q2,?_,by simpa using ag⟩
  unfold Dv add1
  rw [Rq (t:=(a,x.1,x.2)) O (W x (by simp))]
  simp only [Option.bind_some]
  rw [aa];exact ae
def TA(J:JW)(K:Bw)(a:Nat):List BT:=(De J K (Cg K+1) (AG J a) [] 0).map fun x=>((a:Int),x.1,x.2)
def TT(J:JW)(K:Bw):List BT:=(List.range 13).flatMap (TA J K)
theorem Se{n:Nat}{J:JW}{K:Bw}(O:Bt n K)(a:Nat):(TA J K a).length≤268435456:=by
 unfold TA;rw [List.length_map];exact Nat.le_trans (IL _ _ _ _ _ _) (Qd (by have:=JZ O;omega))
theorem Mt{F n a:Nat}{J:JW}{K:Bw}(O:100<F)(U:VJ n J)(W:Bt n K)(Z:a<13):∃q,Ez F (J.1,J.2,Ek J) K (a:Int)=some q∧Ct (TA J K a) q∧∀t∈TA J K a,t.2.2<65536:=by
 have aj:=JZ W;have aa:(16:Nat) ^ (Cg K+1)≤16 ^ 7:=Nat.pow_le_pow_right (by omega) (by omega);have ab:∀l:List (List Int×Nat),l.length≤16 ^ 7→(∀x∈l,x.2<65536)→(Fe F (a:Int) l).isSome=true:=fun l ak ae=>by
  obtain⟨q,e,_⟩:=JV (a:=(a:Int)) O l [] (0,[]) (.inl ⟨rfl,rfl⟩) (by simp;omega) ae;unfold Fe;rw [e];rfl
 obtain⟨d1,d2⟩:=R8 (A:=Ek J) (age:=(a:Int)) (ok:=fun ac=>(Fe F (a:Int) ac).isSome) O U W ab (Cg K+1) F (AG J a) [] 0 [] (by simp) (by omega) (HG U a) (by omega) (by simpa using aa) (by simp);obtain⟨q,ag,ah⟩:=JV (a:=(a:Int)) O (De J K (Cg K+1) (AG J a) [] 0) [] (0,[]) (.inl ⟨rfl,rfl⟩) (by have:=IL J K (Cg K+1) (AG J a) [] 0;simp;omega) d2;refine⟨q,?_,by unfold TA;simpa using ah,?_⟩
 ·unfold Ez Hc;rw [Fg (m:=a) rfl (Rs J Z)];simp only [Option.bind_some];rw [d1];simp only [Option.bind_some,List.nil_append];exact ag
 ·intro t ht;obtain⟨x,ai,rfl⟩:=List.mem_map.1 ht;exact d2 x ai
theorem PQ{F n:Nat}{J:JW}{K:Bw}(U:100<F)(W:VJ n J)(Z:Bt n K):∃qs:Nat→Int×List BT,G2 F (J.1,J.2,Ek J) K=some (CE qs)∧∀j,j<13→Ct (TA J K j) (qs j):=by
 refine⟨fun j=>(Ez F (J.1,J.2,Ek J) K ((j:Nat):Int)).getD (0,[]),?_,fun j O=>?_⟩
 ·unfold G2;rw [if_pos];rw [List.all_eq_true];intro j O;obtain⟨q,e,_⟩:=Mt U W Z (List.mem_range.1 O);rw [e];rfl
 ·obtain⟨q,e,h,_⟩:=Mt U W Z O;simp only [e];exact h
theorem Mo{α β:Type}{f g:α→List β}:∀{l:List α},(∀x∈l,f x=g x)→l.flatMap f=l.flatMap g
 | [],_=>rfl
 | x::l,h=>by rw [List.flatMap_cons,List.flatMap_cons,h x (by simp),Mo fun y K=>h y (by simp [K])]
theorem Ct.flat{T:Nat→List BT}{Q:Nat→Int×List BT}{l:List Nat}{r:Int×List BT}(h:∀j∈l,Ct (T j) (Q j))(ak:Ct (l.flatMap fun j=>(Q j).2) r):Ct (l.flatMap T) r:=by
 have al:∀j∈l,(Q j).2= []→T j= []:=fun j K e=>by
  rcases h j K with⟨U,_⟩ | ⟨k,_,⟨t,ht,aa⟩,_,ab⟩
  ·exact U
  ·have:t∈(Q j).2:=by rw [ab];exact List.mem_filter.2 ⟨ht,by simpa using aa⟩
   rw [e] at this;simp at this
 rcases ak with⟨U,rfl⟩ | ⟨k,U,⟨t,ht,aa⟩,ai,ab⟩
 ·refine .inl ⟨?_,rfl⟩;rw [List.flatMap_eq_nil_iff] at U ⊢;exact fun j K=>al j K (U j K)
 ·have low:∀j∈l,∀s∈T j,∃O:Nat,(Q j).2=(T j).filter (fun t=>decide (Co t=O))∧k≤O∧O≤Co s:=fun j K s hs=>by
   rcases h j K with⟨ae,_⟩ | ⟨O,_,⟨u,hu,ag⟩,W,Z⟩
   ·rw [ae] at hs;simp at hs
   ·refine⟨O,Z,?_,W s hs⟩;have:=ai u (List.mem_flatMap.2 ⟨j,K,by rw [Z];exact List.mem_filter.2 ⟨hu,by simpa using ag⟩⟩);omega
  refine .inr ⟨k,U,?_,?_,?_⟩
  ·obtain⟨j,K,am⟩:=List.mem_flatMap.1 ht;exact⟨t,List.mem_flatMap.2 ⟨j,K,((h j K).sub t am).1⟩,aa⟩
  ·intro s hs;obtain⟨j,K,an⟩:=List.mem_flatMap.1 hs;obtain⟨O,_,aj,W⟩:=low j K s an;omega
  ·rw [ab,List.filter_flatMap,List.filter_flatMap];refine Mo fun j K=>?_;rcases h j K with⟨ae,aj⟩ | ⟨O,_,⟨u,hu,ag⟩,W,Z⟩
   ·rw [ae,aj]
   ·obtain⟨ap,aq,ar,au⟩:=low j K u hu;rw [Z,List.filter_filter];by_cases e:O=k
    ·subst e;exact List.filter_congr fun x _=>by simp
    ·have av:k<O:=by
      have ao:u∈(Q j).2:=by rw [Z];exact List.mem_filter.2 ⟨hu,by simpa using ag⟩
      have:=ai u (List.mem_flatMap.2 ⟨j,K,ao⟩);omega
     rw [List.filter_eq_nil_iff.2 fun x ah=>?_,List.filter_eq_nil_iff.2 fun x ah=>?_]
     ·have:=W x ah;simp;omega
     ·have:=W x ah;simp;omega
theorem O5{qs:Nat→Int×List BT}{p:Int×Int×List BT}(h:p∈CE qs):∃j,j<13∧p=partOf qs j∧0<(qs j).2.length:=by
 unfold CE at h;obtain⟨j,K,rfl⟩:=List.mem_map.1 h;obtain⟨O,U⟩:=List.mem_filter.1 K;exact⟨j,List.mem_range.1 O,rfl,of_decide_eq_true U⟩
theorem O8(qs:Nat→Int×List BT):(CE qs).length≤13:=by
 unfold CE;rw [List.length_map];exact Nat.le_trans (List.length_filter_le _ _) (by simp)
theorem OS(qs:Nat→Int×List BT):((CE qs).flatMap fun p=>p.2.2)=(List.range 13).flatMap fun j=>(qs j).2:=by
 unfold CE;rw [List.flatMap_map];generalize List.range 13=l
 induction l with
 | nil=>rfl
 | cons j l K=>
  rw [List.filter_cons,List.flatMap_cons];split
  ·rw [List.flatMap_cons,K];rfl
  ·rename_i h;have:(qs j).2= []:=List.length_eq_zero_iff.1 (by simpa using h);rw [K,this];rfl
theorem RU{F:Nat}{p:Int×Int×List BT}{pre:List BT}{le:Int}{all:List BT}(aa:268435456<F)(ab:p.2.2.length≤268435456)(ae:pre.length<2 ^ 38)(W:∀t∈p.2.2,(Co t:Int)=p.2.1)(h:Ct pre (le,all)):
  Ad (iter (HC F p) F (le,all,0)) (fun r=>Ct (pre++p.2.2) r):=by
 refine Ad.upto p.2.2.length (fun i s=>s.2.2=(i:Int)∧Ct (pre++p.2.2.take i) (s.1,s.2.1)) ⟨rfl,by simpa using h⟩ (by omega) ?_ ?_
 ·rintro i ⟨a,b,c⟩ hi ⟨O,K⟩;simp only at O K;subst O;unfold HC;refine Ad.pos (by simp only;omega) ?_;refine Ad.BC (m:=i) rfl hi ?_;obtain⟨q,U,Z⟩:=K.snoc F (t:=p.2.2[i]) (by simp;omega);rw [W _ (List.getElem_mem hi)] at U;refine Ad.be U ?_;refine Ad.A1 ((i+1:Nat):Int) (by simp) (by omega) (by omega) ?_;refine Ad.intro ⟨rfl,?_⟩;rw [List.take_add_one,List.getElem?_eq_getElem hi];simpa using Z
 ·rintro⟨a,b,c⟩ ⟨O,K⟩;simp only at O K;subst O;unfold HC;refine Ad.neg (by simp) (Ad.intro ⟨_,rfl,?_⟩);rw [List.take_length] at K;exact K
theorem Kt{F n:Nat}{J:JW}{Z:Bw}(ag:268435456<F)(ah:VJ n J)(ae:Bt n Z):Ad (f93 F (J.1,J.2,Ek J) Z) (fun r=>Ct (TT J Z) r):=by
 obtain⟨qs,e,aa⟩:=PQ (F:=F) (by omega) ah ae;unfold f93;refine Ad.be e ?_;have al:=O8 qs;have hlen:∀p∈CE qs,p.2.2.length≤268435456∧∀t∈p.2.2,(Co t:Int)=p.2.1:=fun p ab=>by
  obtain⟨j,U,rfl,_⟩:=O5 ab;exact⟨Nat.le_trans (aa j U).len (Se ae j),fun t ht=>((aa j U).sub t ht).2⟩
 refine Ad.b (S:=fun r=>Ct ((CE qs).flatMap fun p=>p.2.2) r) ?_ ?_
 ·refine Ad.upto (CE qs).length (fun i s=>s.2.2=(i:Int)∧Ct (((CE qs).take i).flatMap fun p=>p.2.2) (s.1,s.2.1)) ⟨rfl,.inl ⟨rfl,rfl⟩⟩ (by omega) ?_ ?_
  ·rintro i ⟨a,b,c⟩ hi ⟨O,K⟩;simp only at O K;subst O;unfold I1;refine Ad.pos (by simp only;omega) ?_;refine Ad.BC (m:=i) rfl hi ?_;obtain⟨ai,aj⟩:=hlen _ (List.getElem_mem hi);have am:(((CE qs).take i).flatMap fun p=>p.2.2).length≤((CE qs).take i).length*268435456:=Ii fun p ab=>(hlen p (List.mem_of_mem_take ab)).1;have ak:((CE qs).take i).length≤13:=by rw [List.length_take];omega
   have hmul:((CE qs).take i).length*268435456≤13*268435456:=Nat.mul_le_mul_right _ ak;refine Ad.b (RU ag ai (by omega) aj K) ?_;intro r W;refine Ad.A1 ((i+1:Nat):Int) (by simp) (by omega) (by omega) ?_;refine Ad.intro ⟨rfl,?_⟩;rw [List.take_add_one,List.getElem?_eq_getElem hi];simp only [Option.toList_some,List.flatMap_append,List.flatMap_cons,List.flatMap_nil,List.append_nil];exact W
  ·rintro⟨a,b,c⟩ ⟨O,K⟩;simp only at O K;subst O;unfold I1;refine Ad.neg (by simp) (Ad.intro ⟨_,rfl,?_⟩);rw [List.take_length] at K;exact K
 ·intro r W;refine Ad.intro ?_;rw [OS] at W;exact Ct.flat (fun j U=>aa j (List.mem_range.1 U)) W
end Pal
namespace Pal
theorem Ct.Q7{K:List BT}{q:Int×List BT}(h:Ct K q):q.2= []↔K= []:=by
 rcases h with⟨O,rfl⟩ | ⟨k,_,⟨t,ht,U⟩,_,W⟩
 ·simp [O]
 ·constructor
  ·intro e;have:t∈q.2:=by rw [W];exact List.mem_filter.2 ⟨ht,by simpa using U⟩
   rw [e] at this;simp at this
  ·rintro rfl;simp at ht
def CL(J:JW)(K:Bw)(k:Nat):Prop:=(∃t∈TT J K,Co t=k)∧∀t∈TT J K,k≤Co t
theorem CL.uniq{J:JW}{K:Bw}{k k':Nat}(h:CL J K k)(O:CL J K k'):k=k':=by
 obtain⟨⟨t,ht,ab⟩,U⟩:=h;obtain⟨⟨W,Z,ae⟩,aa⟩:=O;have:=U W Z;have:=aa t ht;omega
theorem Hy{J:JW}{U:Bw}{t:BT}:t∈TT J U↔∃a,a<13∧t∈TA J U a:=by
 unfold TT;rw [List.mem_flatMap];exact⟨fun⟨a,K,O⟩=>⟨a,List.mem_range.1 K,O⟩,fun⟨a,K,O⟩=>⟨a,List.mem_range.2 K,O⟩⟩
end Pal
namespace Pal
def Ei(J:JW)(a:Nat)(p:List Int):Prop:=(∀m,p[0]? =some m→∃k:Nat,m=(k:Int)∧(AG J a).testBit k=true)∧∀(y:Nat) m m',p[y]? =some m→p[y+1]? =some m'→m'∈J.1.getD m.toNat []
theorem Ei.range{n a:Nat}{J:JW}{p:List Int}(K:VJ n J)(h:Ei J a p):∀(y:Nat) m,p[y]? =some m→0≤m∧m<(n:Int)
 | 0,m,hm=>by
  obtain⟨k,rfl,O⟩:=h.1 m hm
  have:=GM (HG K a) O
  omega
 | y+1,m,hm=>by
  have U:y<p.length:=by have:=(List.getElem?_eq_some_iff.1 hm).1;omega
  exact(K.Fv _).inr _ (h.2 y p[y] m (List.getElem?_eq_getElem U) hm)
theorem Ei.take{a:Nat}{J:JW}{p:List Int}(h:Ei J a p)(k:Nat):Ei J a (p.take k):=by
 have key:∀(y:Nat) m,(p.take k)[y]? =some m→p[y]? =some m:=fun y m hm=>by
  rw [List.getElem?_take] at hm;split at hm
  ·exact hm
  ·cases hm
 exact⟨fun m hm=>h.1 m (key 0 m hm),fun y m m' K O=>h.2 y m m' (key _ _ K) (key _ _ O)⟩
theorem Ei.snoc{a:Nat}{J:JW}{p:List Int}{m x:Int}(h:Ei J a (p++ [m]))(U:x∈J.1.getD m.toNat []):Ei J a (p++ [m]++ [x]):=by
 constructor
 ·intro y O;rw [List.getElem?_append_left (by simp)] at O;exact h.1 y O
 ·intro y u W hu K;rcases Nat.lt_or_ge (y+1) (p++ [m]).length with Z | aa
  ·rw [List.getElem?_append_left (by omega)] at hu;rw [List.getElem?_append_left Z] at K;exact h.2 y u W hu K
  ·have ab:=(List.getElem?_eq_some_iff.1 K).1;simp only [List.length_append,List.length_singleton] at aa ab;have e:y=p.length:=by omega
   subst e;rw [List.getElem?_append_left (by simp),List.getElem?_append_right (by omega)] at hu;rw [List.getElem?_append_right (by simp)] at K;simp at hu K;subst hu;subst K;exact U
theorem QF{n a q:Nat}{J:JW}{x:Int}(K:VJ n J)(O:(AG J a).testBit q=true)(U:x∈J.1.getD q []):∃k:Nat,x=(k:Int)∧(AG J (a+1)).testBit k=true:=by
 have W:=(K.Fv q).inr x U;refine⟨x.toNat,by omega,?_⟩;show(EP J.1 (AG J a)).testBit _=true;rw [MC K];exact⟨q,by have:=GM (HG K a) O;have:=K.le;omega,O,by rw [show((x.toNat:Nat):Int)=x by omega];exact U⟩
theorem VJ.Oj{n q:Nat}{J:JW}(K:VJ n J)(U:q<n):J.1[q]? =some (J.1.getD q [])∧0<(J.1.getD q []).length:=by
 have W:=K.l1;have O:J.1[q]? =some (J.1.getD q []):=by rw [List.getD_eq_getElem?_getD,List.getElem?_eq_getElem (by omega)];rfl
 exact⟨O,(K.nx q _ O).2⟩
theorem Ng{F k n yrs:Nat}{b:DU}{J:JW}(aD:100<F)(K:VJ n J)(hb:BG k b)(aE:k<1000)(aF:yrs≤20):
  Ad (f45 F b J (yrs:Int)) (fun r=>∃a:Nat,r.1=(a:Int)∧a≤6∧r.2.1.length=yrs∧Ei J a r.2.1∧BG (k+30) r.2.2):=by
 have aG:=K.le;have aH:=K.pos;unfold f45;refine Ad.b (FD hb (by omega) (by omega)) ?_;rintro⟨ao,aI⟩ ⟨ar,au,ap⟩;simp only at ar au ap ⊢;obtain⟨a,rfl⟩:∃a:Nat,ao=(a:Int):=⟨ao.toNat,by omega⟩;refine Ad.b (S:=fun r=>∃q:Nat,r.1=(q:Int)∧(AG J a).testBit q=true∧BG (k+7) r.2) ?_ ?_
 ·refine Ad.upto a (fun i s=>∃q:Nat,s.2.2.2.1=(q:Int)∧(AG J i).testBit q=true∧s.2.2.2.2=(i:Int)∧BG (k+1+i) (s.1,s.2.1,s.2.2.1)) ⟨0,rfl,by show(1:Nat).testBit 0=true;decide,rfl,ap⟩ (by omega) ?_ ?_
  ·rintro i ⟨s1,s2,al,aa,ak⟩ hi ⟨q,O,ab,ae,ag⟩;simp only at O ae ag;subst O;subst ae;unfold IX;have av:=GM (HG K i) ab;obtain⟨am,an⟩:=K.Oj av;refine Ad.pos (by simp only;omega) ?_;refine Ad.be (Fg (m:=q) rfl am) ?_;refine Ad.b (IV (F:=F) ag (by omega) an (by have:=(K.Fv q).len;omega)) ?_;rintro⟨x,aw⟩ ⟨ah,ai⟩;simp only at ah ai ⊢;obtain⟨ay,rfl,az⟩:=QF K ab ah;refine Ad.A1 ((i+1:Nat):Int) (by simp) (by omega) (by omega) ?_;exact Ad.intro ⟨ay,rfl,az,rfl,ai⟩
  ·rintro⟨s1,s2,al,aa,ak⟩ ⟨q,O,ab,ae,ag⟩;simp only at O ae ag;subst O;subst ae;unfold IX;exact Ad.neg (by simp) (Ad.intro ⟨_,rfl,q,rfl,ab,ag.mono (by omega)⟩)
 ·rintro⟨aJ,aw⟩ ⟨q,O,ab,ai⟩;simp only at O ai ⊢;subst O;refine Ad.b (S:=fun r=>r.1.length=yrs∧Ei J a r.1∧BG (k+30) r.2) ?_ ?_
  ·refine Ad.upto yrs (fun i s=>s.2.2.2.2.1.length=i∧s.2.2.2.2.2=(i:Int)∧Ei J a (s.2.2.2.2.1++ [s.2.2.2.1])∧BG (k+7+i) (s.1,s.2.1,s.2.2.1)) ⟨rfl,rfl,⟨?_,?_⟩,ai⟩ (by omega) ?_ ?_
   ·intro m hm;simp at hm;subst hm;exact⟨q,rfl,ab⟩
   ·intro y m m' _ aA;simp at aA
   ·rintro i ⟨s1,s2,al,aa,ak,aB⟩ hi ⟨U,Z,W,aj⟩;simp only at U Z W aj;subst Z;unfold I6;have aK:=W.range K i aa (by rw [List.getElem?_append_right (by omega)];simp [U]);obtain⟨u,hu⟩:∃u:Nat,aa=(u:Int):=⟨aa.toNat,by omega⟩;subst hu;obtain⟨am,an⟩:=K.Oj (q:=u) (by omega);refine Ad.pos (by simp only;omega) ?_;refine Ad.Ky (by simp only;omega) ?_;refine Ad.be (Fg (m:=u) rfl am) ?_;refine Ad.b (IV (F:=F) aj (by omega) an (by have:=(K.Fv u).len;omega)) ?_;rintro⟨x,aC⟩ ⟨ah,aq⟩;simp only at ah aq ⊢;refine Ad.A1 ((i+1:Nat):Int) (by simp) (by omega) (by omega) ?_;exact Ad.intro ⟨by simp [U],rfl,W.snoc (by simpa using ah),aq⟩
   ·rintro⟨s1,s2,al,aa,ak,aB⟩ ⟨U,Z,W,aj⟩;simp only at U Z W aj;subst Z;unfold I6;refine Ad.neg (by simp) (Ad.intro ⟨_,rfl,U,?_,aj.mono (by omega)⟩);have:=W.take ak.length
    rwa [List.take_left' rfl] at this
  ·rintro⟨ms,aC⟩ ⟨U,Z,W⟩;exact Ad.intro ⟨a,rfl,by omega,U,Z,W⟩
theorem Bt.snoc{n:Nat}{O:Bw}{l:Int×Int}(h:Bt n O)(ab:O.length<4)(W:0≤l.1∧l.1≤6)(Z:0≤l.2∧l.2<(n:Int))(aa:∀x∈O,x.1≤l.1):Bt n (O++ [l]) where
 len:=by simp;omega
 yr x K:=by
  rcases List.mem_append.1 K with K | K
  ·exact h.yr x K
  ·simp at K;subst K;exact W
 sn x K:=by
  rcases List.mem_append.1 K with K | K
  ·exact h.sn x K
  ·simp at K;subst K;exact Z
 GD:=by
  rw [List.pairwise_append];exact⟨h.GD,by simp,fun x K y U=>by simp at U;subst U;exact aa x K⟩
theorem Bt.nil{n:Nat}:Bt n []:=⟨by simp,by simp,by simp,by simp⟩
theorem Kv{F k n many:Nat}{b:DU}{J:JW}{ms:List Int}(fl:Bool)(aH:100<F)(ai:VJ n J)(hb:BG k b)(aI:k<1000)(hm:many≤4)(ar:0<ms.length∧ms.length≤7)(aa:∀(y:Nat) m,ms[y]? =some m→0≤m∧m<(n:Int)):
  Ad (f46 F b J ms (many:Int) fl) (fun r=>Bt n r.1∧r.1.length≤many∧(∀l∈r.1,l.1.toNat<ms.length)∧(fl=false→∀l∈r.1,ms[l.1.toNat]? =some l.2)∧BG (k+30) r.2):=by
 have au:=ai.l2;unfold f46;refine Ad.b (FD hb (by omega) (by omega)) ?_;rintro⟨ct,aJ⟩ ⟨av,aw,aj⟩;simp only at av aw aj ⊢;obtain⟨c,rfl⟩:∃c:Nat,ct=(c:Int):=⟨ct.toNat,by omega⟩;refine Ad.b (S:=fun r=>Bt n r.1∧r.1.length≤many∧(∀l∈r.1,l.1.toNat<ms.length)∧(fl=false→∀l∈r.1,ms[l.1.toNat]? =some l.2)∧BG (k+30) r.2) ?_ (fun r aa=>Ad.intro aa);refine Ad.iter (fun m s=>∃y:Nat,s.2.2.2.2.2=(m:Int)∧s.2.2.2.2.1=(y:Int)∧y<ms.length∧s.2.2.2.1.length+m≤many∧Bt n s.2.2.2.1∧(∀l∈s.2.2.2.1,l.1≤(y:Int))∧(fl=false→∀l∈s.2.2.2.1,ms[l.1.toNat]? =some l.2)∧BG (k+29 - 4*m) (s.1,s.2.1,s.2.2.1)) ?_ (m:=c) ⟨0,rfl,rfl,ar.1,by simp;omega,Bt.nil,by simp,by simp,aj.mono (by omega)⟩ (by omega);rintro m ⟨s1,s2,aK,out,yr,cnt⟩ ⟨y,ak,al,aL,hlen,U,hle,ab,ae⟩;simp only at ak al hlen U hle ab ae;subst ak;subst al;unfold Ks;refine Ad.ite (fun ay=>?_) (fun az=>?_)
 ·simp only at ay;have aM:0<m:=by omega
  refine Ad.A1 ((ms.length - 1:Nat):Int) (by omega) (by omega) (by omega) ?_;refine Ad.A1 ((y+2:Nat):Int) (by simp only;omega) (by omega) (by omega) ?_;refine Ad.b (Km (F:=F) ae (by omega) (by simp only;omega) (by simp only;omega) (by omega)) ?_;rintro⟨am,aN⟩ ⟨v1,v2,ag⟩;simp only at v1 v2 ag ⊢;obtain⟨z,rfl⟩:∃z:Nat,am=(z:Int):=⟨am.toNat,by omega⟩;have an:z<ms.length:=by omega
  have W:ms[z]? =some ms[z]:=List.getElem?_eq_getElem an;obtain⟨aO,aA⟩:=aa z _ W;obtain⟨q,aB⟩:∃q:Nat,ms[z]=(q:Int):=⟨ms[z].toNat,by omega⟩;rw [aB] at W aA;have aP:q<n:=by omega
  have aC:J.2[q]? =some (J.2.getD q []):=by rw [List.getD_eq_getElem?_getD,List.getElem?_eq_getElem (by omega)];rfl
  have ao:=ai.Oq q;refine Ad.be (Fg (m:=z) rfl W) ?_;refine Ad.be (Fg (m:=z) rfl W) ?_;refine Ad.be (Fg (m:=q) rfl aC) ?_;refine Ad.b (S:=fun c=>c=true→fl=true∧0<(J.2.getD q []).length) ?_ ?_
  ·refine Ad.ite (fun h=>Ad.intro fun O=>⟨h,by have:=of_decide_eq_true O;omega⟩) (fun _=>Ad.intro fun O=>by cases O)
  ·intro aQ aD;refine Ad.b (S:=fun r=>(r.1=true→fl=true∧0<(J.2.getD q []).length)∧BG (k+29 - 4*m+2) r.2) ?_ ?_
   ·refine Ad.ite (fun h=>?_) (fun _=>Ad.intro ⟨fun O=>(by cases O),BG.mono ag (by omega)⟩);refine Ad.b (HE (F:=F) ag (by omega) (by omega) (by omega)) ?_;rintro⟨o,aE⟩ Z;exact Ad.intro ⟨fun _=>aD h,Z⟩
   ·rintro⟨c2,aE⟩ ⟨ap,Z⟩;simp only at ap Z ⊢;refine Ad.b (S:=fun r=>0≤r.2.2.2∧r.2.2.2<(n:Int)∧(fl=false→r.2.2.2=(q:Int))∧BG (k+29 - 4*m+3) (r.1,r.2.1,r.2.2.1)) ?_ ?_
    ·refine Ad.ite (fun h=>?_) (fun _=>Ad.intro ⟨by simp only;omega,by simp only;omega,fun _=>rfl,BG.mono Z (by omega)⟩);obtain⟨f1,f2⟩:=ap h;refine Ad.b (IV (F:=F) Z (by omega) f2 (by have:=ao.len;omega)) ?_;rintro⟨x,aR⟩ ⟨ah,aF⟩;have:=ao.inr x ah;exact Ad.intro ⟨this.1,this.2,fun O=>(by rw [f1] at O;cases O),aF⟩
    ·rintro⟨u1,aS,aT,sn⟩ ⟨w1,w2,w3,w4⟩;simp only at w1 w2 w3 w4 ⊢;refine Ad.Ky (by have:=U.len;omega) ?_;refine Ad.A1 ((m - 1:Nat):Int) (by omega) (by omega) (by omega) ?_;refine Ad.intro ⟨m - 1,by omega,z,rfl,rfl,an,by simp;omega,?_,?_,?_,w4.mono (by omega)⟩
     ·exact U.snoc (by have:=U.len;omega) ⟨by simp only;omega,by simp only;omega⟩ ⟨w1,w2⟩ fun x ah=>by have:=hle x ah;simp only;omega
     ·intro l K;rcases List.mem_append.1 K with K | K
      ·have:=hle l K;omega
      ·simp at K;subst K;exact Int.le_refl _
     ·intro aq l K;rcases List.mem_append.1 K with K | K
      ·exact ab aq l K
      ·simp at K;subst K;rw [w3 aq];exact W
 ·simp only at az;have aG:m=0:=by omega
  subst aG;exact Ad.intro ⟨U,by omega,fun l K=>by have aU:=hle l K;have au:=U.yr l K;omega,ab,ae.mono (by omega)⟩
theorem Bt.set{n i:Nat}{K:Bw}{s:Int}(h:Bt n K)(hi:i<K.length)(hs:0≤s∧s<(n:Int)):Bt n (K.set i (K[i].1,s)):=by
 have hm:=List.getElem_mem hi;refine⟨by simpa using h.len,fun l O=>?_,fun l O=>?_,?_⟩
 ·rcases List.mem_or_eq_of_mem_set O with U | rfl
  ·exact h.yr l U
  ·exact h.yr K[i] hm
 ·rcases List.mem_or_eq_of_mem_set O with U | rfl
  ·exact h.sn l U
  ·exact hs
 ·have key:(K.set i (K[i].1,s)).map (fun l=>l.1)=K.map (fun l=>l.1):=by
   rw [List.map_set];apply List.ext_getElem?;intro j;by_cases e:i=j
   ·subst e;rw [List.getElem?_set_self (by simpa using hi)];simp [hi]
   ·rw [List.getElem?_set_ne e]
  have W:(K.map fun l=>l.1).Pairwise (·≤·):=List.pairwise_map.2 h.GD;rw [← key] at W;exact List.pairwise_map.1 W
theorem NF{F k n many:Nat}{b:DU}{J:JW}(Z:100<F)(K:VJ n J)(hb:BG k b)(ay:k<900)(hm:many≤4):
  Ad (f40 F b J (many:Int)) (fun r=>Bt n r.1∧r.1.length≤many∧(∀l∈r.1,l.1.toNat<5)∧BG (k+100) r.2):=by
 have az:=K.l1;have aA:=K.pos;have aB:=K.le;unfold f40;refine Ad.b (Ng (yrs:=5) Z K hb (by omega) (by omega)) ?_;rintro⟨aC,ms,aD⟩ ⟨a,_,_,am,aa,ab⟩;simp only at am aa ab ⊢;refine Ad.b (Kv (many:=many) true Z K ab (by omega) hm ⟨by omega,by omega⟩ (aa.range K)) ?_;rintro⟨O,aE⟩ ⟨v1,v2,ae,_,ag⟩;simp only at v1 v2 ae ag ⊢;refine Ad.b (S:=fun r=>Bt n r.1∧r.1.length≤many∧(∀l∈r.1,l.1.toNat<5)∧BG (k+100) r.2) ?_ (fun r an=>Ad.intro an);refine Ad.upto O.length (fun i s=>s.2.2.2.2=(i:Int)∧Bt n s.2.2.2.1∧s.2.2.2.1.length=O.length∧(∀l∈s.2.2.2.1,l.1.toNat<5)∧BG (k+60+3*i) (s.1,s.2.1,s.2.2.1)) ⟨rfl,v1,rfl,fun l ao=>by have:=ae l ao;omega,ag⟩ (by have:=v1.len;omega) ?_ ?_
 ·rintro i ⟨s1,s2,ap,l,c⟩ hi ⟨e,w1,w2,w3,w4⟩;simp only at e w1 w2 w3 w4;subst e;unfold I8;have U:i<l.length:=by omega
  have aq:=v1.len;refine Ad.pos (by simp only;omega) ?_;refine Ad.b (HE (F:=F) w4 (by omega) (by omega) (by omega)) ?_;rintro⟨o,aF⟩ W;simp only at W ⊢;refine Ad.b (S:=fun r=>Bt n r.1∧r.1.length=O.length∧(∀x∈r.1,x.1.toNat<5)∧BG (k+60+3*i+2) r.2) ?_ ?_
  ·refine Ad.ite (fun _=>?_) (fun _=>Ad.intro ⟨w1,w2,w3,BG.mono W (by omega)⟩);refine Ad.A1 ((n - 1:Nat):Int) (by omega) (by omega) (by omega) ?_;refine Ad.b (FD (F:=F) W (by omega) (by omega)) ?_;rintro⟨x,ar⟩ ⟨ah,au,ai⟩;simp only at ah au ai ⊢;refine Ad.BC (m:=i) rfl U ?_;refine Ad.intro ⟨?_,by simpa using w2,?_,ai⟩
   ·rw [show Int.toNat (i:Int)=i by omega];exact w1.set U ⟨ah,by omega⟩
   ·intro y av;rcases List.mem_or_eq_of_mem_set av with aw | rfl
    ·exact w3 y aw
    ·exact w3 l[i] (List.getElem_mem U)
  ·rintro⟨l2,ar⟩ ⟨u1,aj,ak,al⟩;simp only at u1 aj ak al ⊢;refine Ad.A1 ((i+1:Nat):Int) (by simp) (by omega) (by omega) ?_;exact Ad.intro ⟨rfl,u1,aj,ak,BG.mono al (by omega)⟩
 ·rintro⟨s1,s2,ap,l,c⟩ ⟨e,w1,w2,w3,w4⟩;simp only at e w1 w2 w3 w4;subst e;unfold I8;have aq:=v1.len;exact Ad.neg (by simp only;omega) (Ad.intro ⟨_,rfl,w1,by simp only;omega,w3,BG.mono w4 (by omega)⟩)
end Pal
namespace Pal
def Og(J:JW)(K:Bw)(p:List Int):Prop:=∀l∈K,∀m,p[l.1.toNat]? =some m→DM J m l=true
def Dz(K:Bw):Nat→List Int→Nat
 | _,[]=>0
 | y,m::p=>Cd K y m K.length ||| Dz K (y+1) p
theorem MP(Z:Bw)(i:Nat):∀(p:List Int) (y:Nat),(Dz Z y p).testBit i=true↔∃l,Z[i]? =some l∧∃(q:Nat) (m:Int),p[q]? =some m∧l.1=((y+q:Nat):Int)∧m≠l.2
 | [],y=>by simp [Dz]
 | m::p,y=>by
  unfold Dz
  rw [Nat.testBit_or,Bool.or_eq_true,MQ,MP Z i p (y+1)]
  constructor
  ·rintro(⟨_,l,K,O,U⟩ | ⟨l,K,q,u,O,U,W⟩)
   ·exact⟨l,K,0,m,rfl,by simpa using O,U⟩
   ·exact⟨l,K,q+1,u,by simpa using O,by rw [U];congr 1;omega,W⟩
  ·rintro⟨l,K,q,u,O,U,W⟩;cases q with
   | zero=>
    simp at O;subst O;exact .inl ⟨(List.getElem?_eq_some_iff.1 K).1,l,K,by simpa using U,W⟩
   | succ q=>exact .inr ⟨l,K,q,u,by simpa using O,by rw [U];congr 1;omega,W⟩
def Ia(J:JW)(K:Bw):Nat→Nat→List Int→Prop
 | _,_,[]=>True
 | y,sm,m::p=>m∈BY sm 16∧DC J K y m=true∧Ia J K (y+1) (B5 (J.1.getD m.toNat [])) p
theorem II(J:JW)(W:Bw)(x:List Int×Nat):∀(k sm:Nat) (ms:List Int) (fl:Nat),x∈De J W k sm ms fl↔∃p,p.length=k∧x.1=ms++p∧Ia J W ms.length sm p∧x.2=fl ||| Dz W ms.length p
 | 0,sm,ms,fl=>by
  unfold De
  rw [List.mem_singleton]
  constructor
  ·rintro rfl;exact⟨[],rfl,by simp,trivial,by simp [Dz]⟩
  ·rintro⟨p,K,O,_,U⟩;have:p= []:=List.length_eq_zero_iff.1 K;subst this;simp [Dz] at O U;exact Prod.ext O U
 | k+1,sm,ms,fl=>by
  unfold De;rw [List.mem_flatMap];constructor
  ·rintro⟨m,hm,Z⟩;split at Z
   ·rename_i hb;obtain⟨p,K,O,U,aa⟩:=(II J W x k _ _ _).1 Z;refine⟨m::p,by simp [K],by rw [O];simp,⟨hm,hb,by simpa using U⟩,?_⟩;rw [aa];simp only [List.length_append,List.length_singleton,Dz];exact Nat.or_assoc _ _ _
   ·simp at Z
  ·rintro⟨p,K,O,U,aa⟩;cases p with
   | nil=>simp at K
   | cons m p=>
    obtain⟨ab,ae,ag⟩:=U;refine⟨m,ab,?_⟩;rw [if_pos ae];refine(II J W x k _ _ _).2 ⟨p,by simpa using K,by rw [O];simp,by simpa using ag,?_⟩;rw [aa];simp only [List.length_append,List.length_singleton,Dz];exact(Nat.or_assoc _ _ _).symm
theorem QK{J:JW}{K:Bw}{y:Nat}{m:Int}:DC J K y m=true↔∀l∈K,l.1=(y:Int)→DM J m l=true:=by
 unfold DC;rw [List.all_eq_true];refine forall_congr' fun l=>forall_congr' fun _=>?_;rw [Bool.or_eq_true,decide_eq_true_iff];by_cases h:l.1=(y:Int) <;> simp [h]
theorem L6{n q:Nat}{J:JW}{m:Int}(U:VJ n J):m∈BY (B5 (J.1.getD q [])) 16↔m∈J.1.getD q []:=by
 have K:=U.Fv q;have Z:=U.le;rw [GH];constructor
 ·rintro⟨k,_,W,rfl⟩;rw [Iq (fun x O=>(K.inr x O).1)] at W;exact of_decide_eq_true W
 ·intro h;have:=K.inr m h;refine⟨m.toNat,by omega,?_,by omega⟩;rw [Iq (fun x O=>(K.inr x O).1),show((m.toNat:Nat):Int)=m by omega];exact decide_eq_true h
theorem J9{n:Nat}{J:JW}{ag:Bw}(ab:VJ n J):∀(p:List Int) (y sm:Nat),Ia J ag y sm p↔(∀m,p[0]? =some m→m∈BY sm 16)∧(∀(q:Nat) m m',p[q]? =some m→p[q+1]? =some m'→m'∈J.1.getD m.toNat [])∧∀l∈ag,∀(q:Nat) m,l.1=((y+q:Nat):Int)→p[q]? =some m→DM J m l=true
 | [],y,sm=>by simp [Ia]
 | m::p,y,sm=>by
  unfold Ia
  rw [J9 ab p,QK]
  constructor
  ·rintro⟨ae,U,W,ah,ai⟩
   refine⟨fun u hu=>by simp at hu;subst hu;exact ae,fun q u Z hu O=>?_,fun l K q u aa hu=>?_⟩
   ·cases q with
    | zero=>
     simp at hu O;subst hu;exact(L6 ab).1 (W Z (by rw [List.getElem?_eq_some_iff];exact List.getElem?_eq_some_iff.1 O))
    | succ q=>exact ah q u Z (by simpa using hu) (by simpa using O)
   ·cases q with
    | zero=>
     simp at hu;subst hu;exact U l K (by simpa using aa)
    | succ q=>exact ai l K q u (by rw [aa];congr 1;omega) (by simpa using hu)
  ·rintro⟨ae,U,W⟩;refine⟨ae m rfl,fun l K aj=>W l K 0 m (by simpa using aj) rfl,fun u hu=>(L6 ab).2 (U 0 m u rfl (by simpa using hu)),fun q u Z hu O=>U (q+1) u Z (by simpa using hu) (by simpa using O),fun l K q u aa hu=>W l K (q+1) u (by rw [aa];congr 1;omega) (by simpa using hu)⟩
theorem IZ{n a:Nat}{J:JW}{K:Bw}(W:VJ n J)(aj:Bt n K){t:BT}:t∈TA J K a↔t.1=(a:Int)∧t.2.1.length=Cg K+1∧Ei J a t.2.1∧Og J K t.2.1∧t.2.2=Dz K 0 t.2.1:=by
 have ae:∀m:Int,m∈BY (AG J a) 16↔∃k:Nat,m=(k:Int)∧(AG J a).testBit k=true:=fun m=>by
  rw [GH];exact⟨fun⟨k,_,U,O⟩=>⟨k,O,U⟩,fun⟨k,U,O⟩=>⟨k,by have:=GM (HG W a) O;have:=W.le;omega,O,U⟩⟩
 have ag:∀p:List Int,(∀l∈K,∀(q:Nat) m,l.1=((0+q:Nat):Int)→p[q]? =some m→DM J m l=true)↔Og J K p:=fun p=>by
  constructor
  ·intro h l Z m hm;have:=aj.yr l Z;exact h l Z l.1.toNat m (by omega) hm
  ·intro h l Z q m ao hm;exact h l Z m (by rw [show l.1.toNat=q by omega];exact hm)
 unfold TA;rw [List.mem_map];constructor
 ·rintro⟨x,ak,rfl⟩;obtain⟨p,U,O,aa,ab⟩:=(II J K x _ _ _ _).1 ak;obtain⟨al,am,an⟩:=(J9 W p _ _).1 aa;simp only [List.nil_append] at O;rw [O,ab];refine⟨rfl,U,⟨fun m hm=>(ae m).1 (al m hm),am⟩,(ag p).1 an,?_⟩;simp
 ·rintro⟨U,O,⟨aa,ab⟩,ah,ai⟩;obtain⟨t1,t2,t3⟩:=t;simp only at U O aa ab ah ai;subst U;subst ai;refine⟨(t2,Dz K 0 t2),(II J K _ _ _ _ _).2 ⟨t2,O,by simp,(J9 W t2 _ _).2 ⟨fun m hm=>(ae m).2 (aa m hm),ab,(ag t2).2 ah⟩,by simp⟩,rfl⟩
def He(p:List Int)(l:Int×Int):Bool:=decide (p.getD l.1.toNat 0≠l.2)
theorem L9{α:Type}(K:List α)(Q:α→Bool):∀k,((List.range k).filter fun i=>(K[i]?.map Q).getD false).length=((K.take k).filter Q).length
 | 0=>by simp
 | k+1=>by
  rw [List.range_succ,List.filter_append,List.length_append,L9 K Q k,List.take_add_one,List.filter_append,List.length_append]
  congr 1
  cases h:K[k]? with
  | none=>simp [h]
  | some x=>cases O:Q x <;> simp [h,O]
theorem P5{n:Nat}{K:Bw}{p:List Int}(Z:Bt n K)(aa:∀l∈K,l.1.toNat<p.length)(i:Nat):(Dz K 0 p).testBit i=(K[i]?.map (He p)).getD false:=by
 rw [Bool.eq_iff_iff,MP];cases h:K[i]? with
 | none=>simp
 | some l=>
  have hm:=List.mem_of_getElem? h;have O:=aa l hm;have ag:=Z.yr l hm;have ab:p.getD l.1.toNat 0=p[l.1.toNat]:=by rw [List.getD_eq_getElem?_getD,List.getElem?_eq_getElem O];rfl
  simp only [Option.map_some,Option.getD_some,He,decide_eq_true_iff,ab];constructor
  ·rintro⟨ah,U,q,m,W,ai,ae⟩;cases U;have:l.1.toNat=q:=by omega
   subst this;rw [List.getElem?_eq_getElem O] at W;cases W;exact ae
  ·intro U;exact⟨l,rfl,l.1.toNat,_,List.getElem?_eq_getElem O,by omega,U⟩
theorem J1{n:Nat}{K:Bw}(U:Bt n K):∀l∈K,l.1.toNat≤Cg K:=by
 intro l W;obtain⟨i,hi,rfl⟩:=List.mem_iff_getElem.1 W;have O:K.length - 1<K.length:=by omega
 unfold Cg;rw [List.getLast?_eq_getElem?,List.getElem?_eq_getElem O];simp only;rcases Nat.lt_or_ge i (K.length - 1) with h | h
 ·have:=List.pairwise_iff_getElem.1 U.GD i (K.length - 1) hi O h;omega
 ·have e:i=K.length - 1:=by omega
  subst e;exact Nat.le_refl _
theorem J6{n a:Nat}{J:JW}{K:Bw}(U:VJ n J)(O:Bt n K){t:BT}(ht:t∈TA J K a):Co t=(K.filter (He t.2.1)).length:=by
 obtain⟨_,aa,_,_,W⟩:=(IZ U O).1 ht;have ab:=O.len;unfold Co BY;rw [List.length_map,W];have e:(List.range 16).filter (fun i=>(Dz K 0 t.2.1).testBit i)=(List.range 16).filter fun i=>(K[i]?.map (He t.2.1)).getD false:=
  List.filter_congr fun i _=>P5 O (fun l Z=>by have:=J1 O l Z;omega) i
 rw [e,L9,List.take_of_length_le (by omega)]
theorem PD{J:JW}{m:Int}{l:Int×Int}:DM J m l=true↔m=l.2∨l.2∈J.2.getD m.toNat []:=by
 unfold DM;simp
end Pal
namespace Pal
end Pal
namespace Pal
def K9(xs:Bw)(j i:Nat):Prop:=∀(p q:Nat) x y,p<q→q≤i→q≠j→xs[p]? =some x→xs[q]? =some y→x.1≤y.1
theorem Q5{F:Nat}{x y:Int×Int}(K:0≤x.1∧x.1≤6)(O:0≤y.1∧y.1≤6):f125 F x y=some (x.1 - y.1):=by
 unfold f125;rw [show Ay (x.1 - y.1)=some (x.1 - y.1) from if_pos (by omega)];rfl
theorem QM{F i:Nat}:∀(j fuel:Nat) (xs:Bw),j<fuel→j≤i→i<xs.length→xs.length<100→(∀l∈xs,0≤l.1∧l.1≤6)→K9 xs j i→
  Ad (iter (GX F 0) fuel ((j:Int),xs)) (fun ys=>ys.Perm xs∧K9 ys (i+1) i):=by
 intro j
 induction j with
 | zero=>
  intro fuel xs ao ap hi aj ae W;obtain⟨fuel,rfl⟩:∃k,fuel=k+1:=⟨fuel - 1,by omega⟩;refine⟨xs,?_,.refl _,fun p q x y ag Z _ K ae=>W p q x y ag Z (by omega) K ae⟩;simp [iter,GX]
 | succ j aq=>
  intro fuel xs ao ap hi aj ae W;obtain⟨fuel,rfl⟩:∃k,fuel=k+1:=⟨fuel - 1,by omega⟩;have aa:j+1<xs.length:=by omega
  have U:j<xs.length:=by omega
  have ar:=ae _ (List.getElem_mem aa);have au:=ae _ (List.getElem_mem U);have ak:((xs.set (j+1) xs[j]).set j xs[j+1]).Perm xs:=List.set_set_perm aa U;have av:Ad (GX F 0 (((j+1:Nat):Int),xs)) (fun st=>st=if xs[j+1].1<xs[j].1 then .more ((j:Int),(xs.set (j+1) xs[j]).set j xs[j+1]) else .done xs):=by
   unfold GX;refine Ad.b (S:=fun c=>c=decide (xs[j+1].1<xs[j].1)) ?_ ?_
   ·refine Ad.pos (by simp only;omega) ?_;refine Ad.BC (m:=j+1) rfl aa ?_;refine Ad.A1 (j:Int) (by simp) (by omega) (by omega) ?_;refine Ad.BC (m:=j) rfl U ?_;refine Ad.be (Q5 ar au) ?_;exact Ad.intro (decide_eq_decide.2 (by simp only;omega))
   ·rintro c rfl;refine Ad.ite (fun h=>?_) (fun h=>?_)
    ·rw [if_pos (of_decide_eq_true h)];refine Ad.A1 (j:Int) (by simp) (by omega) (by omega) ?_;refine Ad.A1 (j:Int) (by simp) (by omega) (by omega) ?_;refine Ad.BC (m:=j) rfl U ?_;refine Ad.BC (m:=j+1) rfl aa ?_;refine Ad.BC (m:=j) rfl (by simpa using U) ?_;refine Ad.A1 (j:Int) (by simp) (by omega) (by omega) ?_;exact Ad.intro rfl
    ·rw [if_neg (fun aw=>h (decide_eq_true aw))];exact Ad.intro rfl
  obtain⟨st,ay,ah⟩:=av;unfold Pal.iter;rw [ay];by_cases al:xs[j+1].1<xs[j].1
  ·rw [if_pos al] at ah;subst ah;simp only;have az:∀q:Nat,((xs.set (j+1) xs[j]).set j xs[j+1])[q]? =if q=j then some xs[j+1] else if q=j+1 then some xs[j] else xs[q]? :=fun q=>by
    by_cases e:q=j
    ·subst e;rw [if_pos rfl,List.getElem?_set_self (by simpa using U)]
    ·rw [if_neg e,List.getElem?_set_ne (Ne.symm e)];by_cases ai:q=j+1
     ·subst ai;rw [if_pos rfl,List.getElem?_set_self aa]
     ·rw [if_neg ai,List.getElem?_set_ne (Ne.symm ai)]
   refine(aq fuel _ (by omega) (by omega) (by simpa using hi) (by simpa using aj) (fun l aA=>ae l (ak.mem_iff.1 aA)) ?_).mono ?_
   ·intro p q x y ag Z aB K O;rw [az] at K O;rw [if_neg aB] at O;have aC:xs[j+1]? =some xs[j+1]:=List.getElem?_eq_getElem aa;have am:xs[j]? =some xs[j]:=List.getElem?_eq_getElem U;by_cases eq:q=j+1
    ·rw [if_pos eq] at O;cases O;by_cases ab:p=j
     ·rw [if_pos ab] at K;cases K;omega
     ·rw [if_neg ab,if_neg (by omega)] at K;exact W p j _ _ (by omega) (by omega) (by omega) K am
    ·rw [if_neg eq] at O;by_cases ab:p=j
     ·rw [if_pos ab] at K;cases K;exact W (j+1) q _ _ (by omega) Z eq aC O
     ·rw [if_neg ab] at K;by_cases an:p=j+1
      ·rw [if_pos an] at K;cases K;exact W j q _ _ (by omega) Z eq am O
      ·rw [if_neg an] at K;exact W p q _ _ ag Z eq K O
   ·rintro ys ⟨aD,aE⟩;exact⟨aD.trans ak,aE⟩
  ·rw [if_neg al] at ah;subst ah;refine⟨xs,rfl,.refl _,?_⟩;intro p q x y ag Z _ K O;by_cases eq:q=j+1
   ·subst eq;rw [List.getElem?_eq_getElem aa] at O;cases O;by_cases ab:p=j
    ·subst ab;rw [List.getElem?_eq_getElem U] at K;cases K;omega
    ·have:=W p j _ _ (by omega) (by omega) (by omega) K (List.getElem?_eq_getElem U);omega
   ·exact W p q _ _ ag Z eq K O
theorem Q3{F:Nat}{xs:Bw}(ap:100<F)(aq:xs.length<20)(ab:∀l∈xs,0≤l.1∧l.1≤6):Ad (f168 F xs 0 (xs.length:Int)) (fun ys=>ys.Perm xs∧ys.Pairwise (fun a b=>a.1≤b.1)):=by
 unfold f168;refine Ad.A1 1 rfl (by omega) (by omega) ?_;refine Ad.b (S:=fun ys=>ys.Perm xs∧ys.Pairwise (fun a b=>a.1≤b.1)) ?_ (fun r ae=>Ad.intro ae);have ag:∀ys:Bw,ys.Perm xs→(∀(p q:Nat) x y,p<q→ys[p]? =some x→ys[q]? =some y→x.1≤y.1)→ys.Pairwise (fun a b=>a.1≤b.1):=fun ys _ h=>by
  rw [List.pairwise_iff_getElem];intro i j hi ah ai;exact h i j _ _ ai (List.getElem?_eq_getElem hi) (List.getElem?_eq_getElem ah)
 refine Ad.iter (fun m s=>∃i:Nat,s.1=(i:Int)∧1≤i∧m=xs.length - i∧s.2.Perm xs∧K9 s.2 i (i - 1)) ?_ (m:=xs.length - 1) ⟨1,rfl,Nat.le_refl _,rfl,.refl _,fun p q x y K aj _ _ _=>by omega⟩ (by omega);rintro m ⟨c,ys⟩ ⟨i,aa,ar,au,O,Z⟩;simp only at aa O Z;subst aa;unfold J5;have hlen:=O.length_eq;refine Ad.ite (fun h=>?_) (fun h=>?_)
 ·simp only at h;refine Ad.b (QM (i:=i) i F ys (by omega) (Nat.le_refl _) (by omega) (by omega) (fun l ak=>ab l (O.mem_iff.1 ak)) ?_) ?_
  ·intro p q x y K al am W U;exact Z p q x y K (by omega) am W U
  ·rintro av ⟨an,ao⟩;refine Ad.A1 ((i+1:Nat):Int) (by simp) (by omega) (by omega) ?_;exact Ad.intro ⟨xs.length - (i+1),by omega,i+1,rfl,by omega,rfl,an.trans O,fun p q x y K al _ W U=>ao p q x y K (by omega) (by omega) W U⟩
 ·simp only at h;refine Ad.intro ⟨O,ag ys O fun p q x y K W U=>?_⟩;have aj:=(List.getElem?_eq_some_iff.1 U).1;exact Z p q x y K (by omega) (by omega) W U
theorem Nu{F n:Nat}{a b:Bw}(aa:100<F)(Z:Bt n a)(hb:Bt n b)(ae:a.length≤4)(ag:b.length≤4):Ad (f94 F a b) (fun M=>M.Perm (a++b)∧Bt n M):=by
 have O:∀l∈a++b,(0≤l.1∧l.1≤6)∧(0≤l.2∧l.2<(n:Int)):=fun l K=>by
  rcases List.mem_append.1 K with h | h
  ·exact⟨Z.yr l h,Z.sn l h⟩
  ·exact⟨hb.yr l h,hb.sn l h⟩
 have hlen:(a++b).length≤8:=by rw [List.length_append];omega
 unfold f94;refine Ad.be (b:=a++b) (by unfold CF;rw [if_pos (by omega)]) ?_;refine Ad.be (b:=a++b) ?_ ?_
 ·unfold f123 HR;have:CF ([]:Bw) (a++b)=some (a++b):=by unfold CF;rw [if_pos (by simp only [List.length_nil];omega)];rfl
  rw [this];rfl
 refine Ad.b (S:=fun M=>M.Perm (a++b)∧Bt n M) ?_ (fun r W=>Ad.intro W);unfold f124;refine Ad.b (S:=fun M=>M.Perm (a++b)∧Bt n M) ?_ (fun r W=>Ad.intro W);generalize ah:a++b=X at O hlen;unfold f138;refine Ad.b (S:=fun r=>r=(0,X)) ?_ ?_
 ·refine Ad.upto 0 (fun i s=>s=(0,20,X)) rfl (by omega) (fun i s hi=>by omega) ?_;rintro s rfl;unfold Ka;exact Ad.neg (by simp only;omega) (Ad.intro ⟨_,rfl,rfl⟩)
 ·rintro r rfl;simp only;refine Ad.b (Q3 aa (by omega) fun l K=>(O l K).1) ?_;rintro M ⟨U,ab⟩;refine Ad.b (S:=fun _=>True) ?_ ?_
  ·refine Ad.upto 0 (fun i s=>s=20) rfl (by omega) (fun i s hi=>by omega) ?_;rintro s rfl;unfold J7;exact Ad.neg (by omega) (Ad.intro ⟨_,rfl,trivial⟩)
  ·intro _ _;exact Ad.intro ⟨U,by rw [U.length_eq];exact hlen,fun l K=>(O l (U.mem_iff.1 K)).1,fun l K=>(O l (U.mem_iff.1 K)).2,ab⟩
theorem Pk{n:Nat}{a b:Bw}(K:Bt n a)(hb:Bt n b)(h:a.Perm b):Cg a=Cg b:=by
 have key:∀{a b:Bw},Bt n a→Bt n b→a.Perm b→Cg a≤Cg b:=fun {a b} K hb h=>by
  rcases e:a.getLast? with _ | l
  ·unfold Cg;rw [e];simp
  ·have:=J1 hb l (h.mem_iff.1 (List.mem_of_getLast? e));have O:Cg a=l.1.toNat:=by unfold Cg;rw [e]
   omega
 exact Nat.le_antisymm (key K hb h) (key hb K h.symm)
theorem LL{n x:Nat}{J:JW}{a b:Bw}(K:VJ n J)(O:Bt n a)(hb:Bt n b)(h:a.Perm b){t:BT}(ht:t∈TA J a x):∃U∈TA J b x,Co U=Co t:=by
 obtain⟨ae,W,Z,aa,ag⟩:=(IZ K O).1 ht;have hm:((x:Int),t.2.1,Dz b 0 t.2.1)∈TA J b x:=(IZ K hb).2 ⟨rfl,by rw [← Pk O hb h];exact W,Z,fun l ab=>aa l (h.mem_iff.2 ab),rfl⟩;refine⟨_,hm,?_⟩;rw [J6 K hb hm,J6 K O ht];exact((h.filter (He t.2.1)).length_eq).symm
theorem CL.perm{n k:Nat}{J:JW}{a b:Bw}(K:VJ n J)(O:Bt n a)(hb:Bt n b)(h:a.Perm b)(U:CL J a k):CL J b k:=by
 obtain⟨⟨t,ht,e⟩,W⟩:=U;obtain⟨x,Z,aa⟩:=Hy.1 ht;obtain⟨ab,ae,ak⟩:=LL K O hb h aa;refine⟨⟨ab,Hy.2 ⟨x,Z,ae⟩,by omega⟩,fun u hu=>?_⟩;obtain⟨y,ag,ah⟩:=Hy.1 hu;obtain⟨ai,aj,al⟩:=LL K hb O h.symm ah;have:=W ai (Hy.2 ⟨y,ag,aj⟩);omega
theorem Kj{F n:Nat}{J:JW}{a b:Bw}(ae:268435456<F)(W:VJ n J)(aa:Bt n a)(hb:Bt n b)(aj:a.length≤4)(ak:b.length≤4):
  Ad (f37 F J a b) (fun r=>r.2=0∧(r.1=true↔∃ka kb O M,Bt n M∧M.Perm (a++b)∧CL J a ka∧CL J b kb∧CL J M O∧O≤ka+kb)):=by
 have ag:∀{Z:Bw} {q:Int×List BT},Ct (TT J Z) q→(q.2= []∧∀k,¬CL J Z k)∨∃k,CL J Z k∧q.1=(k:Int)∧0<q.2.length:=fun {Z q} h=>by
  have aC:=h.Q7;rcases h with⟨K,rfl⟩ | ⟨k,K,U,al,am⟩
  ·refine .inl ⟨rfl,fun k ah=>?_⟩;obtain⟨⟨t,ht,_⟩,_⟩:=ah;rw [K] at ht;simp at ht
  ·refine .inr ⟨k,⟨U,al⟩,K,?_⟩;obtain⟨t,ht,e⟩:=U;rw [am];exact List.length_pos_of_mem (List.mem_filter.2 ⟨ht,by simpa using e⟩)
 have small:∀{Z:Bw} {k:Nat},Bt n Z→CL J Z k→k≤16:=fun {Z k} _ ah=>by
  obtain⟨⟨t,_,e⟩,_⟩:=ah;have:=Io t.2.2 16;unfold Co at e;omega
 unfold f37;refine Ad.be (NA (by omega) W aa aj) ?_;refine Ad.neg (by simp) ?_;refine Ad.be (NA (by omega) W hb ak) ?_;refine Ad.neg (by simp) ?_;refine Ad.be (RE (by omega) W) ?_;refine Ad.be (b:=(J.1,J.2,Ek J)) rfl ?_;refine Ad.b (Kt ae W aa) ?_;rintro⟨fl,aD⟩ an;refine Ad.b (Kt ae W hb) ?_;rintro⟨aE,aF⟩ ao;simp only;have void:(∀k,¬CL J a k)∨(∀k,¬CL J b k)→(false=true↔∃ka kb O M,Bt n M∧M.Perm (a++b)∧CL J a ka∧CL J b kb∧CL J M O∧O≤ka+kb):=fun h=>by
  constructor
  ·intro ap;cases ap
  ·rintro⟨ka,kb,_,_,_,_,K,U,_⟩;rcases h with h | h
   ·exact absurd K (h ka)
   ·exact absurd U (h kb)
 rcases ag an with⟨K,U⟩ | ⟨ka,k1,aq,ar⟩
 ·simp only at K;subst K;refine Ad.b (S:=fun c=>c=true) (Ad.pos (by simp) (Ad.intro rfl)) ?_;rintro c rfl;exact Ad.pos rfl (Ad.intro ⟨rfl,void (.inl U)⟩)
 ·simp only at aq ar;rcases ag ao with⟨K,U⟩ | ⟨kb,l1,l2,au⟩
  ·simp only at K;subst K;refine Ad.b (S:=fun c=>c=true) (Ad.neg (by omega) (Ad.intro (by simp))) ?_;rintro c rfl;exact Ad.pos rfl (Ad.intro ⟨rfl,void (.inr U)⟩)
  ·simp only at l2 au;refine Ad.b (S:=fun c=>c=false) (Ad.neg (by omega) (Ad.intro (decide_eq_false (by omega)))) ?_;rintro c rfl;refine Ad.neg (by simp) ?_;refine Ad.b (Nu (by omega) aa hb aj ak) ?_;rintro M ⟨ai,ab⟩;refine Ad.b (Kt ae W ab) ?_;rintro⟨aG,aH⟩ av;simp only;have s1:=small aa k1;have s2:=small hb l1;refine Ad.b (S:=fun r=>r=true↔∃ka kb O M,Bt n M∧M.Perm (a++b)∧CL J a ka∧CL J b kb∧CL J M O∧O≤ka+kb) ?_ (fun r aw=>Ad.intro ⟨rfl,aw⟩);rcases ag av with⟨K,U⟩ | ⟨O,n1,ay,az⟩
   ·simp only at K;subst K;refine Ad.neg (by simp) (Ad.intro ⟨fun h=>(by cases h),?_⟩);rintro⟨_,_,O,aA,w1,w2,_,_,w3,_⟩;exact absurd (w3.perm W w1 ab (w2.trans ai.symm)) (U O)
   ·simp only at ay az;refine Ad.pos (by omega) ?_;refine Ad.A1 ((ka+kb:Nat):Int) (by omega) (by omega) (by omega) ?_;refine Ad.intro ?_;rw [decide_eq_true_iff];constructor
    ·intro h;exact⟨ka,kb,O,M,ab,ai,k1,l1,n1,by omega⟩
    ·rintro⟨aI,aJ,aK,aA,w1,w2,w3,w4,aB,aL⟩;obtain rfl:=k1.uniq w3;obtain rfl:=l1.uniq w4;obtain rfl:=n1.uniq (aB.perm W w1 ab (w2.trans ai.symm));omega
end Pal
namespace Pal
open Go Go.Conc
section
variable {P:Program}{J:Judge P}{Q:Goroutine→St→Prop}{b:Frame}{n:Nat}{ds:List Deferred}{ops:Array Oper}{k:List Item}{cs:List Frame}{m fuel:Nat}{D:Nat→Bool}{listed:Array Bool}{L:Env}{s:St}{E E' H:LH}{S:List Seg}
variable {d:Option Tmp}{x y:Operand}{t u ty e:TypeId}{p:String}{af:Array Edge}{g:Option (Nat×Bool)}{v:Value}{i:Nat}{kd:IntKind}
theorem JG.ND{f:FuncId}{args:Array Operand}{ats:Array TypeId}{vs:List Value}{seg:Seg}{R:Value→LH→Seg→Prop}(j:Nat)(ao:∀x,D x=true→∃(O:Nat) (o:Obj),(S.set j [])[O]? =some [(x,o)])(ap:As J f vs E seg R)(aq:Region.ready .any ops listed= [i])
  (ar:ops[i]? =some ⟨d,.call ⟨.value (.func f),args,ats⟩,ty,p,af,g⟩) (au:Bb n d=true) (hw:AU L ops ⟨d,.call ⟨.value (.func f),args,ats⟩,ty,p,af,g⟩=some true) (hb:Cv P f=true) (av:evs L args.toList=some vs) (Z:Ax E H S) (aa:S[j]? =some seg)
  (aw:∀v E' seg',Le E E'→R v E' seg'→Ax E' H (S.set j seg')→Au J Q b n ds ops k cs m D fuel (AX listed i) (AE L d v) (Am E' H (S.set j seg'))):
  Au J Q b n ds ops k cs m D (fuel+1) listed L (Am E H S):=by
 have ag:S.flatten.Perm (seg++(S.set j []).flatten):=(CB (seg':=seg) aa).1.trans List.perm_append_comm;have ah:Nd E H (seg++(S.set j []).flatten):=Nd.perm Z ag;have ay:Am E H S=mk E (AS (S.set j []).flatten H) seg:=by
  rw [show Am E H S=mk E H S.flatten from rfl,C3 Z ag];unfold mk;rw [Ds]
 have ai:=Cz.Fp (ap (AS (S.set j []).flatten H) (Nd.front ah)) (by rintro v s' ⟨E',B',_,_,_,rfl⟩;rfl);rw [← ay] at ai;refine Au.call rfl aq ar au hw hb av ai ?_;rintro v aI ⟨⟨E',B',hle,az,aA,rfl⟩,w,aB⟩;have aC:mk E' (AS (S.set j []).flatten H) B'=mk E' H (B'++(S.set j []).flatten):=by unfold mk;rw [Ds]
 have aD:Nd E H (S.set j []).flatten:=by
  have:=ah;rw [Nd.iff] at this ⊢;rw [List.map_append,List.nodup_append] at this;exact⟨this.1.2.1,fun q aE=>this.2 q (List.mem_append_right _ aE)⟩
 have aF:Nd E' H (S.set j []).flatten:=aD.grow fun x U=>by
  have aG:=aB.d x U;have ab:AS B' (AS (S.set j []).flatten H) x=none:=aG;exact(Ep ab).1
 have aj:Nd E' H (B'++(S.set j []).flatten):=Nd.glue aA aF;have ak:(B'++(S.set j []).flatten).Perm (S.set j B').flatten:=List.perm_append_comm.trans (CB aa).2.symm;have al:Ax E' H (S.set j B'):=Nd.perm aj ak;rw [aC,C3 aj ak];refine⟨rfl,fun x o U=>?_,aw v E' B' hle az al⟩;by_cases ae:D x=true
 ·obtain⟨O,o',W⟩:=ao x ae;have am:j≠O:=fun h=>by
   subst h;rw [List.getElem?_set_self (List.getElem?_eq_some_iff.1 aa).1] at W;cases W
  have an:S[O]? =some [(x,o')]:=by rw [List.getElem?_set_ne am] at W;exact W
  have ab:(Am E H S).get x=some o':=CV (i:=0) Z an rfl;have aH:(Am E' H (S.set j B')).get x=some o':=CV (i:=0) al (by rw [List.getElem?_set_ne am];exact an) rfl;have K:(if D x then(Am E H S).get x else E x)=some o:=U
  show(if D x then(Am E' H (S.set j B')).get x else E' x)=some o
  rw [if_pos ae] at K ⊢;rw [aH,← ab];exact K
 ·have K:(if D x then(Am E H S).get x else E x)=some o:=U
  show(if D x then(Am E' H (S.set j B')).get x else E' x)=some o
  rw [if_neg ae] at K ⊢;exact hle _ _ K
theorem Au.perm{S':List Seg}(K:S.flatten.Perm S'.flatten)(O:Ax E H S)(h:Ax E H S'→Au J Q b n ds ops k cs m D fuel listed L (Am E H S')):Au J Q b n ds ops k cs m D fuel listed L (Am E H S):=by
 have e:Am E H S=Am E H S':=C3 O K;rw [e];exact h (Nd.perm O K)
theorem Au.part{A B:Seg}(j:Nat)(K:S[j]? =some (A++B))(O:Ax E H S)(h:Ax E H (S.set j A++ [B])→Au J Q b n ds ops k cs m D fuel listed L (Am E H (S.set j A++ [B]))):Au J Q b n ds ops k cs m D fuel listed L (Am E H S):=by
 refine Au.perm ?_ O h;have U:=(CB (seg':=A) K).1;have W:=(CB (seg':=A) K).2;rw [Er];refine U.trans ?_;have Z:=W.symm.append_right B
 rwa [List.append_assoc] at Z
end
end Pal
namespace Pal
open Go Go.Conc Go.Proofs
open Go.Proofs.Tryz
def f7(fuel:Nat)(p0:List Int):Option (Bool):=
 (f23 fuel p0).bind fun aj=>
 (f39 fuel aj 7).bind fun K=>
 (f45 fuel K.2 K.1 6).bind fun U=>
 (f46 fuel U.2.2 K.1 U.2.1 4 false).bind fun O=>
 (f46 fuel O.2 K.1 U.2.1 4 false).bind fun Z=>
 (f40 fuel Z.2 K.1 3).bind fun W=>
 (f40 fuel W.2 K.1 3).bind fun aa=>
 (f37 fuel K.1 O.1 Z.1).bind fun ab=>
 (f37 fuel K.1 O.1 O.1).bind fun ae=>
 (f37 fuel K.1 O.1 ([])).bind fun ag=>
 (f37 fuel K.1 W.1 aa.1).bind fun ah=>
 (f37 fuel K.1 aa.1 W.1).bind fun ai=>
 Option.bind (
  if ab.2=0 then(
   some (decide (ae.2=0))
  ) else(
   some false
  )
 ) fun ak=>
 Option.bind (
  if ak=true then(
   some (decide (ag.2=0))
  ) else(
   some false
  )
 ) fun al=>
 Option.bind (
  if al=true then(
   some (decide (ah.2=0))
  ) else(
   some false
  )
 ) fun am=>
 Option.bind (
  if am=true then(
   some (decide (ai.2=0))
  ) else(
   some false
  )
 ) fun an=>
 Option.bind (
  if an=true then(
   some ab.1
  ) else(
   some false
  )
 ) fun ao=>
 Option.bind (
  if ao=true then(
   some ae.1
  ) else(
   some false
  )
 ) fun ap=>
 Option.bind (
  if ap=true then(
   some ag.1
  ) else(
   some false
  )
 ) fun aq=>
 Option.bind (
  if aq=true then(
   some ((ah.1)==(ai.1))
  ) else(
   some false
  )
 ) fun ar=>
 Option.bind (
  if ar=true then(
   (f22 fuel).bind fun au=>
   some au
  ) else(
   some false
  )
 ) fun av=>
 some av
theorem RA{E H:LH}{aW:Ar}{c2:Nat}{p0:List Int}(bI:Ao rI E aW c2 (p0)){fuel:Nat}{r:Bool}(aX:f7 fuel p0=some r):(CC Tryz.prog).ok (Hu Tryz.prog (fun v _=>v= .bool r)) (G (Frame.enter Tryz.prog 7 ([.slice aW (p0).length c2]:List Value).toArray .normal) []) (mk E H []):=by
 refine PS func7 rfl rfl (Nat.le_of_ble_eq_true rfl) ?_;have bJ:Ax E H [[]]:=trivial;unfold f7 at aX;obtain⟨dx,bK,bL⟩:=bs aX;refine zg 7 rfl ?_;refine JS.cl (S4 bI bK) rfl rfl (Aw func23 rfl) bJ ?_;rintro _ dy _ dz ⟨aq,dA,dB,rfl,rfl,bM⟩ bN;obtain⟨ao,bO,bP⟩:=bs bL;refine zg 5 rfl ?_;refine JS.Bu 1 (SB bM bO) rfl rfl (Aw func39 rfl) bN rfl ?_;rintro _ dC _ dD ⟨aH,aI,aJ,aK,bQ,bR,rfl,rfl,aj,ak,bS⟩ bT;refine JS.alloc rfl rfl rfl bT (AN type24) fun bU bV=>?_;refine JS.norm (S':= [[],[(aq,.cells #[.slice bQ (ao.2.1).length bR,iV ao.2.2.1,.int .u64 ((ao.2.2.2:Nat):Int)] 92 (0,0))],[(bU,.cells #[.slice none 0 0,.slice none 0 0] 24 (0,0))]]) rfl bV fun bW=>?_;refine JS.st (v:= .agg #[.slice aH (ao.1.1).length aI,.slice aJ (ao.1.2).length aK]) (off:=0) 2 bW (Ag type24) rfl rfl rfl rfl fun bX=>?_;refine JS.Bo 2 bX rfl fun dE Z al bY=>?_;refine zg 4 rfl ?_;refine JL.Bx al (An underlying24) (Ag type24) rfl rfl ?_;obtain⟨bZ,b0,b1⟩:=bs bP;refine JS.Bu 1 (NZ (bS.mono Z) (aj.mono Z) (ak.mono Z) b0) rfl rfl (Aw func45 rfl) bY rfl ?_;rintro _ dF _ K ⟨b2,b3,dG,dH,rfl,rfl,aY,b4⟩ b5;refine zg 7 rfl ?_;refine JG.Dm 7 mixed rfl (by decide+kernel) fun ht=>?_;refine JG.mv 0 ht rfl rfl ?_;refine JG.Bx 1 ht (al.mono K) (An underlying24) (Ag type24) rfl rfl rfl ?_;refine JG.ms ht rfl [2,4] rfl ?_;refine JG.Bx 5 ht (al.mono K) (An underlying24) (Ag type24) rfl rfl rfl ?_;refine JG.mv 6 ht rfl rfl ?_;obtain⟨dI,b6,b7⟩:=bs b1;refine JG.ND (i:=3) (vs:= [.pointer (some ⟨aq,0,none⟩),.agg #[.slice aH (ao.1.1).length aI,.slice aJ (ao.1.2).length aK],.slice b2 (bZ.2.1).length b3,iV 4,.bool false]) 1 (fun _ h=>by cases h) (KN b4 (aj.mono (Z.trans K)) (ak.mono (Z.trans K)) aY b6) (by decide+kernel) rfl rfl rfl (Aw func46 rfl) rfl b5 rfl ?_;rintro _ dJ _ O ⟨dK,dL,b8,dM,dN,rfl,rfl,b9,ca⟩ cb;refine Au.part 1 rfl cb fun cc=>?_;refine Au.leaf (tail:= [7,8,9]) (by decide+kernel) (fun t=>A7 (by decide+kernel) (A7 (by decide+kernel) (A7 (by decide+kernel) BU)) t) ?_;obtain⟨aL,cd,ce⟩:=bs b7;refine JS.Bu 1 (KN ca (aj.mono ((Z.trans K).trans O)) (ak.mono ((Z.trans K).trans O)) (aY.mono O) cd) rfl rfl (Aw func46 rfl) cc rfl ?_;rintro _ dO _ U ⟨dP,dQ,cf,cg,ci,rfl,rfl,ck,cm⟩ cn;refine JS.part 1 rfl cn fun co=>?_;refine JS.norm (S':= [[],[(aq,.cells #[.slice cg (aL.2.1).length ci,iV aL.2.2.1,.int .u64 ((aL.2.2.2:Nat):Int)] 92 (0,0))],[],b8,cf]) rfl co fun cp=>?_;refine zg 4 rfl ?_;refine JG.Dm 5 mixed rfl (by decide+kernel) fun ht=>?_;refine JG.mv 0 ht rfl rfl ?_;refine JG.Bx 1 ht (al.mono ((K.trans O).trans U)) (An underlying24) (Ag type24) rfl rfl rfl ?_;refine JG.mv 3 ht rfl rfl ?_;refine JG.Bx 4 ht (al.mono ((K.trans O).trans U)) (An underlying24) (Ag type24) rfl rfl rfl ?_;obtain⟨dR,cq,cr⟩:=bs ce;refine JG.ND (i:=2) (vs:= [.pointer (some ⟨aq,0,none⟩),.agg #[.slice aH (ao.1.1).length aI,.slice aJ (ao.1.2).length aK],iV 3]) 1 (fun _ h=>by cases h) (NU cm (aj.mono (((Z.trans K).trans O).trans U)) (ak.mono (((Z.trans K).trans O).trans U)) cq) (by decide+kernel) rfl rfl rfl (Aw func40 rfl) rfl cp rfl ?_;rintro _ dS _ aa ⟨dT,dU,dV,dW,rfl,rfl,aZ,ct⟩ cu;refine Au.leaf (tail:= [5,6,7]) (by decide+kernel) (fun t=>A7 (by decide+kernel) (A7 (by decide+kernel) (A7 (by decide+kernel) BU)) t) ?_;obtain⟨ar,cv,cw⟩:=bs cr;refine JS.Bu 1 (NU ct (aj.mono ((((Z.trans K).trans O).trans U).trans aa)) (ak.mono ((((Z.trans K).trans O).trans U).trans aa)) cv) rfl rfl (Aw func40 rfl) cu rfl ?_;rintro _ dX _ ab ⟨dY,dZ,a0,a1,rfl,rfl,a2,ea⟩ cy;refine zg 5 rfl ?_;refine JL.Bx (al.mono ((((K.trans O).trans U).trans aa).trans ab)) (An underlying24) (Ag type24) rfl rfl ?_;refine zg 2 rfl ?_;refine JS.BO 3 (b9.mono ((U.trans aa).trans ab)) cy rfl fun eb ae aF cz=>?_;refine JS.BO 4 (ck.mono ((aa.trans ab).trans ae)) cz rfl fun ec W cA cB=>?_;refine JS.norm (S':= [[],[(aq,.cells #[.slice a0 (ar.2.1).length a1,iV ar.2.2.1,.int .u64 ((ar.2.2.2:Nat):Int)] 92 (0,0))],[],[],[]]) rfl cB fun cC=>?_;obtain⟨au,cD,cE⟩:=bs cw;refine JS.cl (G8 (aj.mono (((((((Z.trans K).trans O).trans U).trans aa).trans ab).trans ae).trans W)) (ak.mono (((((((Z.trans K).trans O).trans U).trans aa).trans ab).trans ae).trans W)) (aF.mono W) cA cD) rfl rfl (Aw func37 rfl) cC ?_;rintro _ ed _ ag ⟨rfl,rfl⟩ cF;refine zg 8 rfl ?_;refine JL.Bx (al.mono (((((((K.trans O).trans U).trans aa).trans ab).trans ae).trans W).trans ag)) (An underlying24) (Ag type24) rfl rfl ?_;obtain⟨av,cG,cH⟩:=bs cE;refine zg 2 rfl ?_;refine JS.cl (G8 (aj.mono ((((((((Z.trans K).trans O).trans U).trans aa).trans ab).trans ae).trans W).trans ag)) (ak.mono ((((((((Z.trans K).trans O).trans U).trans aa).trans ab).trans ae).trans W).trans ag)) (aF.mono (W.trans ag)) (aF.mono (W.trans ag)) cG) rfl rfl (Aw func37 rfl) cF ?_;rintro _ ee _ ah ⟨rfl,rfl⟩ cI;refine zg 8 rfl ?_;refine JL.Bx (al.mono ((((((((K.trans O).trans U).trans aa).trans ab).trans ae).trans W).trans ag).trans ah)) (An underlying24) (Ag type24) rfl rfl ?_;obtain⟨ap,cJ,cK⟩:=bs cH;refine zg 1 rfl ?_;refine JS.cl (G8 (aj.mono (((((((((Z.trans K).trans O).trans U).trans aa).trans ab).trans ae).trans W).trans ag).trans ah)) (ak.mono (((((((((Z.trans K).trans O).trans U).trans aa).trans ab).trans ae).trans W).trans ag).trans ah)) (aF.mono ((W.trans ag).trans ah)) Ao.nil cJ) rfl rfl (Aw func37 rfl) cI ?_;rintro _ ef _ am ⟨rfl,rfl⟩ cM;refine JS.norm (S':= [[],[(aq,.cells #[.slice a0 (ar.2.1).length a1,iV ar.2.2.1,.int .u64 ((ar.2.2.2:Nat):Int)] 92 (0,0))],[],[],[],[],[],[]]) rfl cM fun cN=>?_;refine zg 8 rfl ?_;refine JL.Bx (al.mono (((((((((K.trans O).trans U).trans aa).trans ab).trans ae).trans W).trans ag).trans ah).trans am)) (An underlying24) (Ag type24) rfl rfl ?_;obtain⟨an,cO,cP⟩:=bs cK;refine zg 2 rfl ?_;refine JS.cl (G8 (aj.mono ((((((((((Z.trans K).trans O).trans U).trans aa).trans ab).trans ae).trans W).trans ag).trans ah).trans am)) (ak.mono ((((((((((Z.trans K).trans O).trans U).trans aa).trans ab).trans ae).trans W).trans ag).trans ah).trans am)) (aZ.mono (((((ab.trans ae).trans W).trans ag).trans ah).trans am)) (a2.mono ((((ae.trans W).trans ag).trans ah).trans am)) cO) rfl rfl (Aw func37 rfl) cN ?_;rintro _ eg _ aw ⟨rfl,rfl⟩ cQ;refine zg 8 rfl ?_;refine JL.Bx (al.mono ((((((((((K.trans O).trans U).trans aa).trans ab).trans ae).trans W).trans ag).trans ah).trans am).trans aw)) (An underlying24) (Ag type24) rfl rfl ?_;obtain⟨ai,cR,cT⟩:=bs cP;refine zg 2 rfl ?_;refine JS.cl (G8 (aj.mono (((((((((((Z.trans K).trans O).trans U).trans aa).trans ab).trans ae).trans W).trans ag).trans ah).trans am).trans aw)) (ak.mono (((((((((((Z.trans K).trans O).trans U).trans aa).trans ab).trans ae).trans W).trans ag).trans ah).trans am).trans aw)) (a2.mono (((((ae.trans W).trans ag).trans ah).trans am).trans aw)) (aZ.mono ((((((ab.trans ae).trans W).trans ag).trans ah).trans am).trans aw)) cR) rfl rfl (Aw func37 rfl) cQ ?_;rintro _ aM _ eh ⟨rfl,rfl⟩ a3;obtain⟨a4,a5,cV⟩:=bs cT;refine zg 11 rfl ?_;refine JL.BM [6,7,8,9,10,11,12,13,14,15,16,17,18,19,20,21,22,23,24,25,26,27,28,29,30,31,32,33,34,35] (fun L s=>∃(ay:LH),Jm aM H ay [] [(11,.bool au.1),(13,.bool av.1),(15,.bool ap.1),(16,iV ap.2),(17,.bool an.1),(18,iV an.2),(19,.bool ai.1),(20,iV ai.2),(84,.bool a4)] L s) ?_ ?_
 ·rintro _ _ ⟨ay,rfl,rfl,ei,a6⟩;obtain⟨a7,a8,cW⟩:=bs cV;refine zg 1 rfl ?_;refine JL.BM [10,11,12,13,14,15,16,17,18,19,20,21,22,23,24,25,26,27,28,29,30,31,32,33,34,35] (fun L s=>∃(az:LH),Jm ay H az [] [(11,.bool au.1),(13,.bool av.1),(15,.bool ap.1),(17,.bool an.1),(18,iV an.2),(19,.bool ai.1),(20,iV ai.2),(88,.bool a7)] L s) ?_ ?_
  ·rintro _ _ ⟨az,rfl,rfl,ej,a9⟩;obtain⟨ba,bb,cX⟩:=bs cW;refine zg 1 rfl ?_;refine JL.BM [14,15,16,17,18,19,20,21,22,23,24,25,26,27,28,29,30,31,32,33,34,35] (fun L s=>∃(aA:LH),Jm az H aA [] [(11,.bool au.1),(13,.bool av.1),(15,.bool ap.1),(17,.bool an.1),(19,.bool ai.1),(20,iV ai.2),(92,.bool ba)] L s) ?_ ?_
   ·rintro _ _ ⟨aA,rfl,rfl,ek,bc⟩;obtain⟨bd,bf,cY⟩:=bs cX;refine zg 1 rfl ?_;refine JL.BM [18,19,20,21,22,23,24,25,26,27,28,29,30,31,32,33,34,35] (fun L s=>∃(aB:LH),Jm aA H aB [] [(11,.bool au.1),(13,.bool av.1),(15,.bool ap.1),(17,.bool an.1),(19,.bool ai.1),(96,.bool bd)] L s) ?_ ?_
    ·rintro _ _ ⟨aB,rfl,rfl,el,bg⟩;obtain⟨bh,bi,cZ⟩:=bs cY;refine zg 1 rfl ?_;refine JL.BM [21,22,23,24,25,26,27,28,29,30,31,32,33,34,35] (fun L s=>∃(aC:LH),Jm aB H aC [] [(13,.bool av.1),(15,.bool ap.1),(17,.bool an.1),(19,.bool ai.1),(99,.bool bh)] L s) ?_ ?_
     ·rintro _ _ ⟨aC,rfl,rfl,em,bj⟩;obtain⟨bk,bl,c0⟩:=bs cZ;refine zg 1 rfl ?_;refine JL.BM [24,25,26,27,28,29,30,31,32,33,34,35] (fun L s=>∃(aD:LH),Jm aC H aD [] [(15,.bool ap.1),(17,.bool an.1),(19,.bool ai.1),(102,.bool bk)] L s) ?_ ?_
      ·rintro _ _ ⟨aD,rfl,rfl,eo,bm⟩;obtain⟨bn,bo,c1⟩:=bs c0;refine zg 1 rfl ?_;refine JL.BM [27,28,29,30,31,32,33,34,35] (fun L s=>∃(aE:LH),Jm aD H aE [] [(17,.bool an.1),(19,.bool ai.1),(105,.bool bn)] L s) ?_ ?_
       ·rintro _ _ ⟨aE,rfl,rfl,ep,bp⟩;obtain⟨bq,br,c3⟩:=bs c1;refine zg 1 rfl ?_;refine JL.BM [32,33,34,35] (fun L s=>∃(aG:LH),Jm aE H aG [] [(110,.bool bq)] L s) ?_ ?_
        ·rintro _ _ ⟨aG,rfl,rfl,eq,bu⟩;obtain⟨bv,bw,c4⟩:=bs c3;refine zg 1 rfl ?_;refine JL.BM [35] (fun L s=>∃(bx:LH),Jm aG H bx [] [(113,.bool bv)] L s) ?_ ?_
         ·rintro _ _ ⟨bx,rfl,rfl,er,et⟩;refine zg 2 rfl ?_;obtain rfl:=oi c4;exact JL.F1 rfl (JO.end (v:= .bool bv) rfl (by decide+kernel) func7 rfl rfl rfl)
         ·intro bz;refine JL.Cb (c:=bq) (i:=111) rfl (fun aN=>?_) (fun aN=>?_)
          ·have c5:=ip bw aN;obtain⟨eu,c6,c7⟩:=bs c5;refine JS.cl (Sx c6) rfl rfl (Aw func22 rfl) bu ?_;rintro _ c8 _ c9 ⟨rfl,rfl⟩ da;refine JS.norm (S':= [[]]) rfl da fun db=>?_;refine zg 1 rfl ?_;obtain rfl:=oi c7;exact JL.kw (bz _ _ ⟨c8,rfl,rfl,c9,db⟩) rfl
          ·have dc:=ib bw aN;refine zg 2 rfl ?_;obtain rfl:=oi dc;exact JL.kw (bz _ _ ⟨aG,rfl,rfl,(Le.refl _),bu⟩) rfl
        ·intro bA;refine JL.Cb (c:=bn) (i:=106) rfl (fun aO=>?_) (fun aO=>?_)
         ·have dd:=ip br aO;refine zg 2 rfl ?_;refine JL.Y (v:= .bool (((an.1)==(ai.1)))) rfl (fun ρ h=>Yl.Tm underlying4 (h _ _ rfl) (h _ _ rfl)) ?_;refine zg 1 rfl ?_;obtain rfl:=oi dd;exact JL.kw (bA _ _ ⟨aE,rfl,rfl,(Le.refl _),bp⟩) rfl
         ·have de:=ib br aO;refine zg 4 rfl ?_;obtain rfl:=oi de;exact JL.kw (bA _ _ ⟨aE,rfl,rfl,(Le.refl _),bp⟩) rfl
       ·intro bB;refine JL.Cb (c:=bk) (i:=103) rfl (fun aP=>?_) (fun aP=>?_)
        ·have df:=ip bo aP;refine zg 2 rfl ?_;obtain rfl:=oi df;exact JL.kw (bB _ _ ⟨aD,rfl,rfl,(Le.refl _),bm⟩) rfl
        ·have dg:=ib bo aP;refine zg 2 rfl ?_;obtain rfl:=oi dg;exact JL.kw (bB _ _ ⟨aD,rfl,rfl,(Le.refl _),bm⟩) rfl
      ·intro bC;refine JL.Cb (c:=bh) (i:=100) rfl (fun aQ=>?_) (fun aQ=>?_)
       ·have dh:=ip bl aQ;refine zg 2 rfl ?_;obtain rfl:=oi dh;exact JL.kw (bC _ _ ⟨aC,rfl,rfl,(Le.refl _),bj⟩) rfl
       ·have di:=ib bl aQ;refine zg 2 rfl ?_;obtain rfl:=oi di;exact JL.kw (bC _ _ ⟨aC,rfl,rfl,(Le.refl _),bj⟩) rfl
     ·intro bD;refine JL.Cb (c:=bd) (i:=97) rfl (fun aR=>?_) (fun aR=>?_)
      ·have dj:=ip bi aR;refine zg 2 rfl ?_;obtain rfl:=oi dj;exact JL.kw (bD _ _ ⟨aB,rfl,rfl,(Le.refl _),bg⟩) rfl
      ·have dk:=ib bi aR;refine zg 2 rfl ?_;obtain rfl:=oi dk;exact JL.kw (bD _ _ ⟨aB,rfl,rfl,(Le.refl _),bg⟩) rfl
    ·intro bE;refine JL.Cb (c:=ba) (i:=93) rfl (fun aS=>?_) (fun aS=>?_)
     ·have dl:=ip bf aS;refine zg 3 rfl ?_;obtain rfl:=oi dl;exact JL.kw (bE _ _ ⟨aA,rfl,rfl,(Le.refl _),bc⟩) rfl
     ·have dm:=ib bf aS;refine zg 3 rfl ?_;obtain rfl:=oi dm;exact JL.kw (bE _ _ ⟨aA,rfl,rfl,(Le.refl _),bc⟩) rfl
   ·intro bF;refine JL.Cb (c:=a7) (i:=89) rfl (fun aT=>?_) (fun aT=>?_)
    ·have dn:=ip bb aT;refine zg 3 rfl ?_;obtain rfl:=oi dn;exact JL.kw (bF _ _ ⟨az,rfl,rfl,(Le.refl _),a9⟩) rfl
    ·have dp:=ib bb aT;refine zg 3 rfl ?_;obtain rfl:=oi dp;exact JL.kw (bF _ _ ⟨az,rfl,rfl,(Le.refl _),a9⟩) rfl
  ·intro bG;refine JL.Cb (c:=a4) (i:=85) rfl (fun aU=>?_) (fun aU=>?_)
   ·have dq:=ip a8 aU;refine zg 3 rfl ?_;obtain rfl:=oi dq;exact JL.kw (bG _ _ ⟨ay,rfl,rfl,(Le.refl _),a6⟩) rfl
   ·have dr:=ib a8 aU;refine zg 3 rfl ?_;obtain rfl:=oi dr;exact JL.kw (bG _ _ ⟨ay,rfl,rfl,(Le.refl _),a6⟩) rfl
 ·intro bH;refine JL.Cm (q:=au.2=0) (i:=81) rfl (fun aV=>?_) (fun aV=>?_)
  ·have dt:=ip a5 aV;refine zg 3 rfl ?_;refine JS.drop 1 a3 rfl fun du=>?_;obtain rfl:=oi dt;exact JL.kw (bH _ _ ⟨aM,rfl,rfl,(Le.refl _),du⟩) rfl
  ·have dv:=im a5 aV;refine zg 3 rfl ?_;refine JS.drop 1 a3 rfl fun dw=>?_;obtain rfl:=oi dv;exact JL.kw (bH _ _ ⟨aM,rfl,rfl,(Le.refl _),dw⟩) rfl
end Pal
namespace Pal
theorem JD{n a:Nat}{J:JW}{ms:List Int}{K:Bw}(W:VJ n J)(U:Bt n K)(ab:Ei J a ms)(ae:a<13)(ai:0<ms.length)(ag:∀l∈K,l.1.toNat<ms.length)(v4:∀l∈K,ms[l.1.toNat]? =some l.2):CL J K 0:=by
 have aj:Cg K<ms.length:=by
  rcases h:K.getLast? with _ | l
  ·unfold Cg;rw [h];simp only;omega
  ·have:=ag l (List.mem_of_getLast? h);unfold Cg;rw [h];exact this
 have Z:∀l∈K,(ms.take (Cg K+1))[l.1.toNat]? =some l.2:=fun l O=>by
  have:=J1 U l O;rw [List.getElem?_take,if_pos (by omega)];exact v4 l O
 have aa:((a:Int),ms.take (Cg K+1),Dz K 0 (ms.take (Cg K+1)))∈TA J K a:=by
  refine(IZ W U).2 ⟨rfl,by simp only [List.length_take];omega,ab.take _,fun l O m hm=>?_,rfl⟩;simp only at hm;rw [Z l O] at hm;cases hm;rw [PD];exact .inl rfl
 have ah:Co ((a:Int),ms.take (Cg K+1),Dz K 0 (ms.take (Cg K+1)))=0:=by
  rw [J6 W U aa,List.length_eq_zero_iff,List.filter_eq_nil_iff];intro l O;unfold He;simp only;rw [List.getD_eq_getElem?_getD,Z l O];simp
 exact⟨⟨_,Hy.2 ⟨a,ae,aa⟩,ah⟩,fun _ _=>Nat.zero_le _⟩
theorem SH{F:Nat}(al:268435456<F)(hs:f22 F=some true)(Jl:List Int):f7 F Jl=some true:=by
 refine Ad.DR ?_;unfold f7;refine Ad.be (b:=(Jl,0,2685821657736338717)) rfl ?_;refine Ad.b (RP (F:=F) (k:=0) (mx:=7) (b:=(Jl,0,2685821657736338717)) (by omega) ⟨Int.le_refl _,Int.le_refl _⟩ (by omega) (by omega) (by omega)) ?_;rintro⟨J,b⟩ ⟨⟨n,aJ,K⟩,hb⟩;simp only at K hb ⊢;have U:100<F:=by omega
 refine Ad.b (Ng (yrs:=6) U K hb (by omega) (by omega)) ?_;rintro⟨aK,ms,aL⟩ ⟨a,aC,aM,aD,W,aw⟩;simp only at aC aD W aw ⊢;refine Ad.b (Kv (many:=4) false U K aw (by omega) (by omega) ⟨by omega,by omega⟩ (W.range K)) ?_;rintro⟨p,aN⟩ ⟨ae,ak,p3,p4,ay⟩;simp only at ae ak p3 p4 ay ⊢;refine Ad.b (Kv (many:=4) false U K ay (by omega) (by omega) ⟨by omega,by omega⟩ (W.range K)) ?_;rintro⟨q,aO⟩ ⟨Z,ag,ah,O,az⟩;simp only at Z ag ah O az ⊢;have p4:=p4 trivial;have O:=O trivial;refine Ad.b (NF (many:=3) U K az (by omega) (by omega)) ?_;rintro⟨x,aP⟩ ⟨am,aE,_,aA⟩;simp only at am aE aA ⊢;refine Ad.b (NF (many:=3) U K aA (by omega) (by omega)) ?_;rintro⟨y,aQ⟩ ⟨an,aF,_,_⟩;simp only at an aF ⊢;have ao:0<ms.length:=by omega
 have alike:∀{q:Bw},Bt n q→q.length≤4→(∀l∈q,l.1.toNat<ms.length)→(∀l∈q,ms[l.1.toNat]? =some l.2)→Ad (f37 F J p q) (fun r=>r=(true,0)):=fun {q} Z ag ah O=>by
  refine(Kj al K ae Z ak ag).mono ?_;rintro⟨r,z⟩ ⟨aa,ab⟩;simp only at aa ab;subst aa;obtain⟨M,aR,ai⟩:=Nu (F:=F) U ae Z ak ag;have aG:r=true:=ab.2 ⟨0,0,0,M,ai.2,ai.1,JD K ae W (by omega) ao p3 p4,JD K Z W (by omega) ao ah O,?_,Nat.le_refl _⟩
  ·rw [aG]
  ·refine JD K ai.2 W (by omega) ao (fun l ap=>?_) (fun l ap=>?_)
   ·rcases List.mem_append.1 (ai.1.mem_iff.1 ap) with h | h
    ·exact p3 l h
    ·exact ah l h
   ·rcases List.mem_append.1 (ai.1.mem_iff.1 ap) with h | h
    ·exact p4 l h
    ·exact O l h
 refine Ad.b (alike Z ag ah O) ?_;rintro _ rfl;refine Ad.b (alike ae ak p3 p4) ?_;rintro _ rfl;refine Ad.b (alike (q:= []) Bt.nil (by simp) (by simp) (by simp)) ?_;rintro _ rfl;refine Ad.b (Kj al K am an (by omega) (by omega)) ?_;rintro⟨u,z⟩ ⟨aj,hu⟩;simp only at aj hu;subst aj;refine Ad.b (Kj al K an am (by omega) (by omega)) ?_;rintro⟨v,z⟩ ⟨aj,aB⟩;simp only at aj aB;subst aj;have aH:u=v:=by
  rw [Bool.eq_iff_iff,hu,aB];constructor
  ·rintro⟨ka,kb,aq,M,aa,ab,ar,au,av,aI⟩;exact⟨kb,ka,aq,M,aa,ab.trans List.perm_append_comm,au,ar,av,by omega⟩
  ·rintro⟨ka,kb,aq,M,aa,ab,ar,au,av,aI⟩;exact⟨kb,ka,aq,M,aa,ab.trans List.perm_append_comm,au,ar,av,by omega⟩
 subst aH;refine Ad.b (S:=fun c=>c=true) (Ad.pos rfl (Ad.intro (by simp))) ?_;rintro c rfl;refine Ad.b (S:=fun c=>c=true) (Ad.pos rfl (Ad.intro (by simp))) ?_;rintro c rfl;refine Ad.b (S:=fun c=>c=true) (Ad.pos rfl (Ad.intro (by simp))) ?_;rintro c rfl;refine Ad.b (S:=fun c=>c=true) (Ad.pos rfl (Ad.intro (by simp))) ?_;rintro c rfl;refine Ad.b (S:=fun c=>c=true) (Ad.pos rfl (Ad.intro rfl)) ?_;rintro c rfl;refine Ad.b (S:=fun c=>c=true) (Ad.pos rfl (Ad.intro rfl)) ?_;rintro c rfl;refine Ad.b (S:=fun c=>c=true) (Ad.pos rfl (Ad.intro rfl)) ?_;rintro c rfl;refine Ad.b (S:=fun c=>c=true) (Ad.pos rfl (Ad.intro (by simp))) ?_;rintro c rfl;refine Ad.b (S:=fun c=>c=true) (Ad.pos rfl (Ad.be hs (Ad.intro rfl))) ?_;rintro c rfl;exact Ad.intro rfl
end Pal
